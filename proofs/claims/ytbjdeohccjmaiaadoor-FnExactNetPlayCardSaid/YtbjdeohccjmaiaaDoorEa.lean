/- YtbjdeohccjmaiaaDoorEa: part of the proof that laws hold, for every input that the row speaks of (no condition of ours). -/
import Derived.WalkKit
import Derived.Laws.BytesArg
set_option linter.unusedVariables false
set_option linter.unusedSimpArgs false
section
namespace Go.Eng
open Go Go.RowKit
inductive DV where
 | v (x:Value)
 | sl (els:List (List DV))
 | ptr (ls:List DV)
 | ifc (t:TypeId) (x:DV)
 | fn (f:FuncId) (caps:List DV)
 | mp (t:List (Value × Value))
def bk (d:Nat):Nat:=if 920≤d∧d < 960∨2000≤d then 1 else if 960≤d∧d < 1000 then 2 else 0
def MpOk (es:Array MapEntry) (ck:Nat) (t:List (Value × Value)):Prop :=
 ck=es.size∧(∀ (i:Nat) (e:MapEntry),es[i]? = some e→e.born=i)∧es.toList.map (fun e=>(e.key,e.val))=t
inductive AV where
 | v (x:Value)
 | nl
 | sl (tok:Option (Nat × Nat × TypeId)) (els:List (List DV))
 | agg (ls:List AV)
 | tup (ls:List AV)
 | cl (f:FuncId) (b:Bool) (ls:List AV)
 | loc (d off:Nat)
 | xs (d off n cap sz:Nat)
 | el (ls:List DV)
 | rd
 | dv (x:DV)
 | mr (d:Nat)
 | mb (t:List (Value × Value))
 | junk
structure Gh where
 w:World
 S:Nat→Nat→Prop
 β:Nat→Nat
 tv:Nat→Nat→Value
 te:Nat→Nat→TypeId
 g:Nat
inductive RdD (w:World) (S:Nat→Nat→Prop):DV→Value→Prop
 | v (x:Value) (h:x.oneCell'=true):RdD w S (.v x) x
 | nil:RdD w S (.sl []) (.slice none 0 0)
 | em (a:Addr):RdD w S (.sl []) (.slice (some a) 0 0)
 | sl (els:List (List DV)) (b off n cap size:Nat) (f:Nat→Value) (hn:n=els.length) (hcap:n≤cap) (hs:∀ row ∈ els,row.length=size)
   (hc:∀ k,k < n * size→S b (off + k)∧w.cell? ⟨b,off + k,none⟩=some (f k))
   (hh:∀ i j row x,els[i]? = some row→row[j]? = some x→RdD w S x (f (i * size + j))) :
   RdD w S (.sl els) (.slice (some ⟨b,off,none⟩) n cap)
 | ptr (ls:List DV) (b off:Nat) (f:Nat→Value) (hc:∀ k,k < ls.length→S b (off + k)∧w.cell? ⟨b,off + k,none⟩=some (f k))
   (hh:∀ j x,ls[j]? = some x→RdD w S x (f j)):RdD w S (.ptr ls) (.pointer (some ⟨b,off,none⟩))
 | ifc (t:TypeId) (x:DV) (v:Value) (h:RdD w S x v):RdD w S (.ifc t x) (.iface t v)
 | fn (f:FuncId) (ls:List DV) (vs:Array Value) (hn:vs.size=ls.length) (hh:∀ j x,ls[j]? = some x→RdD w S x (vs.getD j undef)):RdD w S (.fn f ls) (.func (.func f) #[] vs)
 | mp (t:List (Value × Value)) (b:Nat) (es:Array MapEntry) (ck:Nat) (hS:S b 0) (hb:w.heap[b]? = some (.map es ck)) (hm:MpOk es ck t):RdD w S (.mp t) (.map (some b))
def TokC (c:Gh):Option (Nat × Nat × TypeId)→Value→Prop
 | none,_=>True
 | some (d,j,e),v=>c.tv d j=v∧c.te d j=e
inductive Rd (c:Gh):AV→Value→Prop
 | v (x:Value) (h:x.oneCell'=true):Rd c (.v x) x
 | junk (x:Value):Rd c .junk x
 | nl:Rd c .nl (.slice none 0 0)
 | rd:Rd c .rd (.pointer (some ⟨c.g,0,none⟩))
 | dv (x:DV) (v:Value) (h:RdD c.w c.S x v):Rd c (.dv x) v
 | loc (d off:Nat) (h:bk d=0):Rd c (.loc d off) (.pointer (some ⟨c.β d,off,none⟩))
 | mr1 (d:Nat) (h:bk d=1):Rd c (.mr d) (.map (some (c.β d)))
 | mr2 (d:Nat) (h:bk d=2):Rd c (.mr d) (.pointer (some ⟨c.β d,0,none⟩))
 | mb (t:List (Value × Value)):Rd c (.mb t) (.tuple (t.map fun p=>.tuple #[p.1,p.2]).toArray)
 | xs (d off n cap sz:Nat) (hc:n≤cap) (h:bk d=0):Rd c (.xs d off n cap sz) (.slice (some ⟨c.β d,off,none⟩) n cap)
 | sl (tok:Option (Nat × Nat × TypeId)) (els:List (List DV)) (v:Value) (h:RdD c.w c.S (.sl els) v) (ht:TokC c tok v):Rd c (.sl tok els) v
 | agg (ls:List AV) (cs:Array Value) (hn:cs.size=ls.length) (hh:∀ j x,ls[j]? = some x→Rd c x (cs.getD j undef)):Rd c (.agg ls) (.agg cs)
 | tup (ls:List AV) (cs:Array Value) (hn:cs.size=ls.length) (hh:∀ j x,ls[j]? = some x→Rd c x (cs.getD j undef)):Rd c (.tup ls) (.tuple cs)
 | cl1 (f:FuncId) (ls:List AV) (cs:Array Value) (hn:cs.size=ls.length) (hh:∀ j x,ls[j]? = some x→Rd c x (cs.getD j undef)):Rd c (.cl f true ls) (.func (.func f) cs #[])
 | cl2 (f:FuncId) (ls:List AV) (cs:Array Value) (hn:cs.size=ls.length) (hh:∀ j x,ls[j]? = some x→Rd c x (cs.getD j undef)):Rd c (.cl f false ls) (.func (.func f) #[] cs)
 | el (ls:List DV) (b off:Nat) (f:Nat→Value) (hc:∀ k,k < ls.length→c.S b (off + k)∧c.w.cell? ⟨b,off + k,none⟩=some (f k))
   (hh:∀ j x,ls[j]? = some x→RdD c.w c.S x (f j)):Rd c (.el ls) (.pointer (some ⟨b,off,none⟩))
def Keeps (w:World) (S:Nat→Nat→Prop) (w':World) (S':Nat→Nat→Prop):Prop :=
 (∀ b o v,S b o→w.cell? ⟨b,o,none⟩=some v→S' b o∧w'.cell? ⟨b,o,none⟩=some v)∧
 (∀ b es ck,S b 0→w.heap[b]? = some (.map es ck)→S' b 0∧w'.heap[b]? = some (.map es ck))
def Lk (w:World) (b o:Nat):Prop:=(∃ v,w.cell? ⟨b,o,none⟩=some v)∨(o=0∧∃ es ck,w.heap[b]? = some (.map es ck))
theorem Keeps.lk {w w':World} {S S':Nat→Nat→Prop} (h:Keeps w S w' S') {b o:Nat} (hS:S b o) (hl:Lk w b o):Lk w' b o:=by
 rcases hl with ⟨v,hv⟩ | ⟨rfl,es,ck,hb⟩
 ·exact .inl ⟨v,(h.1 b o v hS hv).2⟩
 ·exact .inr ⟨rfl,es,ck,(h.2 b es ck hS hb).2⟩
theorem Lk.lt {w:World} {b o:Nat} (h:Lk w b o):b < w.heap.size:=by
 rcases h with ⟨v,hv⟩ | ⟨_,es,ck,hb⟩
 ·exact World.block_lt_of_cell? w ⟨b,o,none⟩ hv
 ·exact (Array.getElem?_eq_some_iff.1 hb).1
theorem bk_lt {d:Nat} (h:d < 920):bk d=0:=by
 unfold bk;rw [if_neg (by omega),if_neg (by omega)]
theorem Keeps.same {w w':World} {S S':Nat→Nat→Prop} (hS:∀ b o,S b o→S' b o) (h:∀ b o,S b o→w'.heap[b]? = w.heap[b]?):Keeps w S w' S' :=
 ⟨fun b o v hs hv=>⟨hS b o hs,(World.cell?_of_block (w:=w) (a:=⟨b,o,none⟩) (h b o hs)).trans hv⟩,fun b es ck hs hb=>⟨hS b 0 hs,(h b 0 hs).trans hb⟩⟩
theorem RdD.keep {w w':World} {S S':Nat→Nat→Prop} (h:Keeps w S w' S') {x:DV} {v:Value} (hr:RdD w S x v):RdD w' S' x v:=by
 induction hr with
 | v x h=>exact .v x h
 | nil=>exact .nil
 | em a=>exact .em a
 | sl els b off n cap size f hn hcap hs hc _ ih =>
  exact .sl els b off n cap size f hn hcap hs (fun k hk=>h.1 _ _ _ (hc k hk).1 (hc k hk).2) ih
 | ptr ls b off f hc _ ih=>exact .ptr ls b off f (fun k hk=>h.1 _ _ _ (hc k hk).1 (hc k hk).2) ih
 | ifc t x v _ ih=>exact .ifc t x v ih
 | fn f ls vs hn _ ih=>exact .fn f ls vs hn ih
 | mp t b es ck hS hb hm=>exact .mp t b es ck (h.2 _ _ _ hS hb).1 (h.2 _ _ _ hS hb).2 hm
/- tokens of key d are struck -/
def stripTok (d:Nat):Option (Nat × Nat × TypeId)→Option (Nat × Nat × TypeId)
 | some (k,j,e)=>if k=d then none else some (k,j,e)
 | none=>none
mutual
def AV.strip (d:Nat):AV→AV
 | .v x=>.v x
 | .nl=>.nl
 | .sl t els=>.sl (stripTok d t) els
 | .agg ls=>.agg (AV.stripAll d ls)
 | .tup ls=>.tup (AV.stripAll d ls)
 | .cl f b ls=>.cl f b (AV.stripAll d ls)
 | .loc k off=>.loc k off
 | .xs k off n cap sz=>.xs k off n cap sz
 | .el ls=>.el ls
 | .rd=>.rd
 | .dv x=>.dv x
 | .mr k=>.mr k
 | .mb t=>.mb t
 | .junk=>.junk
def AV.stripAll (d:Nat):List AV→List AV
 | []=>[]
 | x::l=>x.strip d::AV.stripAll d l
end
theorem AV.stripAll_eq (d:Nat) (ls:List AV):AV.stripAll d ls=ls.map (·.strip d):=by
 induction ls with
 | nil=>rfl
 | cons x l ih=>simp [AV.stripAll,ih]
/- locations of box d are struck -/
mutual
def AV.stripL (d:Nat):AV→AV
 | .v x=>.v x
 | .nl=>.nl
 | .sl t els=>.sl t els
 | .agg ls=>.agg (AV.stripLAll d ls)
 | .tup ls=>.tup (AV.stripLAll d ls)
 | .cl f b ls=>.cl f b (AV.stripLAll d ls)
 | .loc k off=>if k=d then .junk else .loc k off
 | .xs k off n cap sz=>if k=d then .junk else .xs k off n cap sz
 | .el ls=>.el ls
 | .rd=>.rd
 | .dv x=>.dv x
 | .mr k=>if k=d then .junk else .mr k
 | .mb t=>.mb t
 | .junk=>.junk
def AV.stripLAll (d:Nat):List AV→List AV
 | []=>[]
 | x::l=>x.stripL d::AV.stripLAll d l
end
theorem AV.stripLAll_eq (d:Nat) (ls:List AV):AV.stripLAll d ls=ls.map (·.stripL d):=by
 induction ls with
 | nil=>rfl
 | cons x l ih=>simp [AV.stripLAll,ih]
structure SameBut (d:Nat) (c c':Gh):Prop where
 g:c'.g=c.g
 β:c'.β=c.β
 tv:∀ k j,k≠d→c'.tv k j=c.tv k j
 te:∀ k j,k≠d→c'.te k j=c.te k j
theorem Rd.strip {c c':Gh} {d:Nat} (hk:Keeps c.w c.S c'.w c'.S) (hs:SameBut d c c') {x:AV} {v:Value} (h:Rd c x v):Rd c' (x.strip d) v:=by
 induction h with
 | v x h=>exact .v x h
 | junk x=>exact .junk x
 | nl=>exact .nl
 | rd=>simp only [AV.strip];rw [← hs.g];exact .rd
 | dv x v h=>exact .dv x v (h.keep hk)
 | loc k off hb=>simp only [AV.strip];rw [← hs.β];exact .loc k off hb
 | mr1 k hb=>simp only [AV.strip];rw [← hs.β];exact .mr1 k hb
 | mr2 k hb=>simp only [AV.strip];rw [← hs.β];exact .mr2 k hb
 | mb t=>exact .mb t
 | xs k off n cap sz hc hb=>simp only [AV.strip];rw [← hs.β];exact .xs k off n cap sz hc hb
 | sl tok els v h ht =>
  refine .sl _ els v (h.keep hk) ?_
  unfold stripTok
  split
  ·split
   ·trivial
   ·rename_i hne;exact ⟨(hs.tv _ _ hne).trans ht.1,(hs.te _ _ hne).trans ht.2⟩
  ·trivial
 | agg ls cs hn _ ih =>
  simp only [AV.strip,AV.stripAll_eq]
  refine .agg _ cs (by simpa using hn) fun j x hx=>?_
  obtain ⟨y,hy,rfl⟩:=by simpa using hx
  exact ih j y hy
 | tup ls cs hn _ ih =>
  simp only [AV.strip,AV.stripAll_eq]
  refine .tup _ cs (by simpa using hn) fun j x hx=>?_
  obtain ⟨y,hy,rfl⟩:=by simpa using hx
  exact ih j y hy
 | cl1 fu ls cs hn _ ih =>
  simp only [AV.strip,AV.stripAll_eq]
  refine .cl1 fu _ cs (by simpa using hn) fun j x hx=>?_
  obtain ⟨y,hy,rfl⟩:=by simpa using hx
  exact ih j y hy
 | cl2 fu ls cs hn _ ih =>
  simp only [AV.strip,AV.stripAll_eq]
  refine .cl2 fu _ cs (by simpa using hn) fun j x hx=>?_
  obtain ⟨y,hy,rfl⟩:=by simpa using hx
  exact ih j y hy
 | el ls b off f hc _=>exact .el ls b off f (fun k hkk=>hk.1 _ _ _ (hc k hkk).1 (hc k hkk).2) (fun j x hx=>(by rename_i hh;exact (hh j x hx).keep hk))
theorem Rd.stripL {c c':Gh} {d:Nat} (hk:Keeps c.w c.S c'.w c'.S) (hg:c'.g=c.g) (hβ:∀ k,k≠d→c'.β k=c.β k) (htv:c'.tv=c.tv) (hte:c'.te=c.te) {x:AV} {v:Value} (h:Rd c x v):Rd c' (x.stripL d) v:=by
 induction h with
 | v x h=>exact .v x h
 | junk x=>exact .junk x
 | nl=>exact .nl
 | rd=>simp only [AV.stripL];rw [← hg];exact .rd
 | dv x v h=>exact .dv x v (h.keep hk)
 | loc k off hb =>
  simp only [AV.stripL]
  split
  ·exact .junk _
  ·rename_i hne;rw [← hβ k hne];exact .loc k off hb
 | mr1 k hb =>
  simp only [AV.stripL]
  split
  ·exact .junk _
  ·rename_i hne;rw [← hβ k hne];exact .mr1 k hb
 | mr2 k hb =>
  simp only [AV.stripL]
  split
  ·exact .junk _
  ·rename_i hne;rw [← hβ k hne];exact .mr2 k hb
 | mb t=>exact .mb t
 | xs k off n cap sz hc hb =>
  simp only [AV.stripL]
  split
  ·exact .junk _
  ·rename_i hne;rw [← hβ k hne];exact .xs k off n cap sz hc hb
 | sl tok els v h ht =>
  refine .sl _ els v (h.keep hk) ?_
  unfold TokC at *
  split
  ·trivial
  ·simp only [htv,hte] at *;exact ht
 | agg ls cs hn _ ih =>
  simp only [AV.stripL,AV.stripLAll_eq]
  refine .agg _ cs (by simpa using hn) fun j x hx=>?_
  obtain ⟨y,hy,rfl⟩:=by simpa using hx
  exact ih j y hy
 | tup ls cs hn _ ih =>
  simp only [AV.stripL,AV.stripLAll_eq]
  refine .tup _ cs (by simpa using hn) fun j x hx=>?_
  obtain ⟨y,hy,rfl⟩:=by simpa using hx
  exact ih j y hy
 | cl1 fu ls cs hn _ ih =>
  simp only [AV.stripL,AV.stripLAll_eq]
  refine .cl1 fu _ cs (by simpa using hn) fun j x hx=>?_
  obtain ⟨y,hy,rfl⟩:=by simpa using hx
  exact ih j y hy
 | cl2 fu ls cs hn _ ih =>
  simp only [AV.stripL,AV.stripLAll_eq]
  refine .cl2 fu _ cs (by simpa using hn) fun j x hx=>?_
  obtain ⟨y,hy,rfl⟩:=by simpa using hx
  exact ih j y hy
 | el ls b off f hc hh=>exact .el ls b off f (fun k hkk=>hk.1 _ _ _ (hc k hkk).1 (hc k hkk).2) (fun j x hx=>(hh j x hx).keep hk)
theorem Rd.keep {c c':Gh} (hk:Keeps c.w c.S c'.w c'.S) (hg:c'.g=c.g) (hβ:c'.β=c.β) (htv:c'.tv=c.tv) (hte:c'.te=c.te) {x:AV} {v:Value} (h:Rd c x v):Rd c' x v:=by
 induction h with
 | v x h=>exact .v x h
 | junk x=>exact .junk x
 | nl=>exact .nl
 | rd=>rw [← hg];exact .rd
 | dv x v h=>exact .dv x v (h.keep hk)
 | loc k off hb=>rw [← hβ];exact .loc k off hb
 | mr1 k hb=>rw [← hβ];exact .mr1 k hb
 | mr2 k hb=>rw [← hβ];exact .mr2 k hb
 | mb t=>exact .mb t
 | xs k off n cap sz hc hb=>rw [← hβ];exact .xs k off n cap sz hc hb
 | sl tok els v h ht =>
  refine .sl _ els v (h.keep hk) ?_
  unfold TokC at *
  split
  ·trivial
  ·simp only [htv,hte] at *;exact ht
 | agg ls cs hn _ ih=>exact .agg _ cs hn ih
 | tup ls cs hn _ ih=>exact .tup _ cs hn ih
 | cl1 fu ls cs hn _ ih=>exact .cl1 fu _ cs hn ih
 | cl2 fu ls cs hn _ ih=>exact .cl2 fu _ cs hn ih
 | el ls b off f hc hh=>exact .el ls b off f (fun k hkk=>hk.1 _ _ _ (hc k hkk).1 (hc k hkk).2) (fun j x hx=>(hh j x hx).keep hk)
structure St where
 nt:Nat
 σ:List (Nat × AV)
 m:List (Nat × List AV)
 rn:Nat
def lk (x:Nat):List (Nat × AV)→AV
 | []=>.junk
 | (y,v)::l=>if x=y then v else lk x l
def lkm (x:Nat):List (Nat × List AV)→Option (List AV)
 | []=>none
 | (y,v)::l=>if x=y then some v else lkm x l
def stripσ (d:Nat):List (Nat × AV)→List (Nat × AV)
 | []=>[]
 | (y,v)::l=>(y,v.strip d)::stripσ d l
def stripm (d:Nat):List (Nat × List AV)→List (Nat × List AV)
 | []=>[]
 | (y,v)::l=>(y,AV.stripAll d v)::stripm d l
def stripLσ (d:Nat):List (Nat × AV)→List (Nat × AV)
 | []=>[]
 | (y,v)::l=>(y,v.stripL d)::stripLσ d l
def stripLm (d:Nat):List (Nat × List AV)→List (Nat × List AV)
 | []=>[]
 | (y,v)::l=>if d=y then stripLm d l else (y,AV.stripLAll d v)::stripLm d l
theorem lk_stripL (d x:Nat) (l:List (Nat × AV)):lk x (stripLσ d l)=(lk x l).stripL d:=by
 induction l with
 | nil=>rfl
 | cons p l ih=>obtain ⟨y,v⟩:=p;simp only [stripLσ,lk];split<;>simp [ih]
theorem lkm_stripL (d x:Nat) (hx:x≠d) (l:List (Nat × List AV)):lkm x (stripLm d l)=(lkm x l).map (AV.stripLAll d):=by
 induction l with
 | nil=>rfl
 | cons p l ih =>
  obtain ⟨y,v⟩:=p
  simp only [stripLm,lkm]
  split
  ·rename_i e;subst e;rw [if_neg hx];exact ih
  ·simp only [lkm];split<;>simp [ih]
theorem lk_strip (d x:Nat) (l:List (Nat × AV)):lk x (stripσ d l)=(lk x l).strip d:=by
 induction l with
 | nil=>rfl
 | cons p l ih=>obtain ⟨y,v⟩:=p;simp only [stripσ,lk];split<;>simp [ih]
theorem lkm_strip (d x:Nat) (l:List (Nat × List AV)):lkm x (stripm d l)=(lkm x l).map (AV.stripAll d):=by
 induction l with
 | nil=>rfl
 | cons p l ih=>obtain ⟨y,v⟩:=p;simp only [stripm,lkm];split<;>simp [ih]
structure En where
 P:Program
 w0:World
 draws:Bool
 g:Nat
 bv:Value
 S0:Nat→Nat→Prop
 L:Nat→Prop:=fun _=>False
 b0:Nat→Nat:=fun _=>0
def bvB (v:Value) (b:Nat):Prop:=∃ off len cap,v = .slice (some ⟨b,off,none⟩) len cap∧0 < len
structure GrownL (w w':World) (r:Option Nat) (L:Nat→Prop):Prop where
 os:w'.os=w.os
 tape:w'.tape=w.tape
 output:w'.output=w.output
 size:w.heap.size≤w'.heap.size
 block:∀ i,i < w.heap.size→r≠some i→¬ L i→w'.heap[i]? = w.heap[i]?
theorem GrownL.rfl' (w:World) (r:Option Nat) (L:Nat→Prop):GrownL w w r L:=⟨rfl,rfl,rfl,Nat.le_refl _,fun _ _ _ _=>rfl⟩
theorem GrownL.trans' {w0 w w':World} {r:Option Nat} {L L':Nat→Prop} (h:GrownL w0 w r L) (k:GrownL w w' none L') (hL:∀ b,L' b→w0.heap.size≤b∨L b):GrownL w0 w' r L :=
 ⟨k.os.trans h.os,k.tape.trans h.tape,k.output.trans h.output,Nat.le_trans h.size k.size,fun i hi hr hn =>
  (k.block i (Nat.lt_of_lt_of_le hi h.size) (by simp) fun h'=>(hL i h').elim (fun h=>by omega) hn).trans (h.block i hi hr hn)⟩
theorem GrownL.mono {w w':World} {r:Option Nat} {L L':Nat→Prop} (h:GrownL w w' r L) (hL:∀ b,L b→L' b):GrownL w w' r L' :=
 ⟨h.os,h.tape,h.output,h.size,fun i h1 h2 h3=>h.block i h1 h2 fun h=>h3 (hL i h)⟩
theorem GrownL.by {w w':World} {r:Option Nat} {L:Nat→Prop} (h:GrownL w w' r L) (hL:∀ b,¬ L b):w.grownBy w' r :=
 ⟨h.os,h.tape,h.output,h.size,fun i h1 h2=>h.block i h1 (fun e=>h2 e.symm) (hL i)⟩
def RK (w:World) (g:Nat) (bv:Value) (B n:Nat):Prop :=
 g < B∧∃ T p,w.heap[g]? = some (.cells #[bv,.int .i64 p] T (0,0))∧0≤p∧p≤(n:Int)∧
  (bv = .slice none 0 0∨(∃ cb off len cap,∃ f:Nat→Nat,bv = .slice (some ⟨cb,off,none⟩) len cap∧(0 < len→cb≠g∧cb < B)∧(len≤2000∧len≤cap)∧
   ∀ k,k < len→f k < 256∧w.cell? ⟨cb,off + k,none⟩=some (.int .u8 (f k)))∨∃ a,bv = .slice (some a) 0 0)
inductive BoxK:Nat→Array Value→Obj→Prop
 | cells (d:Nat) (cs:Array Value) (T:TypeId) (h:bk d=0):BoxK d cs (.cells cs T (0,0))
 | map (d:Nat) (es:Array MapEntry) (ck:Nat) (t:List (Value × Value)) (h:bk d=1) (hm:MpOk es ck t):BoxK d #[.tuple (t.map fun p=>.tuple #[p.1,p.2]).toArray] (.map es ck)
 | iter (d b n:Nat) (seen:Array Nat) (h:bk d=2):BoxK d #[.map (some b),.tuple (seen.toList.map fun (s:Nat)=>Value.tuple #[.int .i64 s,.int .i64 0]).toArray,.int .i64 n] (.mapIter (some b) n seen n)
def BoxOb (d:Nat) (cs:Array Value):Type:={ o:Obj // BoxK d cs o }
def BoxOb.cells {d:Nat} (h:bk d=0) (cs:Array Value) (T:TypeId):BoxOb d cs:=⟨.cells cs T (0,0),.cells d cs T h⟩
theorem BoxOb.cells0 {d:Nat} {cs:Array Value} (K:BoxOb d cs) (h:bk d=0):∃ T,K.1 = .cells cs T (0,0):=by
 obtain ⟨o,hk⟩:=K
 cases hk with
 | cells _ T _=>exact ⟨T,rfl⟩
 | map es ck t h1 hm=>rw [h] at h1;cases h1
 | iter b n seen h1=>rw [h] at h1;cases h1
def BoxOb.cast {d d':Nat} {cs:Array Value} (K:BoxOb d cs) (h:bk d'=bk d):BoxOb d' cs:=⟨K.1,by
 obtain ⟨o,hk⟩:=K
 cases hk with
 | cells _ T h1=>exact .cells _ _ T (h.trans h1)
 | map es ck t h1 hm=>exact .map _ es ck t (h.trans h1) hm
 | iter b n seen h1=>exact .iter _ b n seen (h.trans h1)⟩
def BoxOk (B:Nat) (L:Nat→Prop) (c:Gh) (d:Nat) (ls:List AV):Prop :=
 ∃ cs,∃ T:BoxOb d cs,(B≤c.β d∨L (c.β d))∧c.w.heap[c.β d]? = some T.1∧cs.size=ls.length∧
  (∀ j x,ls[j]? = some x→Rd c x (cs.getD j undef))∧∀ o,¬ c.S (c.β d) o
def TokOk (P:Program) (B:Nat) (c:Gh) (d j:Nat):Prop :=
 c.tv d j = .slice none 0 0∨∃ g n cap cur,∃ i:TypeInfo,c.tv d j = .slice (some ⟨g,0,none⟩) n cap∧B≤g∧
  c.w.heap[g]? = some (.cells cur (c.te d j) (0,0))∧n≤cap∧cap≤maxLen∧P.info? (c.te d j)=some i∧cur.size=cap * i.size∧
  ∀ o,n * i.size≤o→¬ c.S g o
structure Good (E:En) (m:List (Nat × List AV)) (rn:Nat) (c:Gh):Prop where
 cg:c.g=E.g
 fr:GrownL E.w0 c.w (if E.draws then some E.g else none) E.L
 lx:E.draws=true→∀ b,E.L b→b≠E.g∧¬ bvB E.bv b
 sx:∀ b o,c.S b o→Lk c.w b o
 s1:∀ b o v,c.S b o→c.w.cell? ⟨b,o,none⟩=some v→v.oneCell'=true
 sS:∀ b o,c.S b o→E.w0.heap.size≤b∨E.S0 b o
 sg:E.draws=true→∀ o,¬ c.S E.g o
 box:∀ d ls,lkm d m=some ls→BoxOk E.w0.heap.size E.L c d ls
 boxinj:∀ d d' ls ls',lkm d m=some ls→lkm d' m=some ls'→c.β d=c.β d'→d=d'
 tok:∀ d j,TokOk E.P E.w0.heap.size c d j
 toktok:∀ d j d' j' b,(c.tv d j).ownBlock=some b→(c.tv d' j').ownBlock=some b→d=d'∧j=j'
 tokbox:∀ d j b k ls,(c.tv d j).ownBlock=some b→lkm k m=some ls→c.β k≠b
 rk:E.draws=true→RK c.w E.g E.bv E.w0.heap.size rn
 bl:∀ k,1000≤k→c.β k=E.b0 k
theorem BoxOk.cells {B:Nat} {L:Nat→Prop} {c:Gh} {d:Nat} {ls:List AV} (h:BoxOk B L c d ls) (hk:bk d=0):∃ cs T,(B≤c.β d∨L (c.β d))∧c.w.heap[c.β d]? = some (.cells cs T (0,0))∧cs.size=ls.length∧
  (∀ j x,ls[j]? = some x→Rd c x (cs.getD j undef))∧∀ o,¬ c.S (c.β d) o:=by
 obtain ⟨cs,K,h1,h2,h3,h4,h5⟩:=h
 obtain ⟨T,hT⟩:=K.cells0 hk
 exact ⟨cs,T,h1,by rw [h2,hT],h3,h4,h5⟩
theorem Rd.loc0 {c:Gh} {d off:Nat} {v:Value} (h:Rd c (.loc d off) v):bk d=0:=by cases h;assumption
theorem Rd.xs0 {c:Gh} {d off n cap sz:Nat} {v:Value} (h:Rd c (.xs d off n cap sz) v):bk d=0:=by cases h;assumption
def R (E:En) (st:St) (a:Act) (w:World):Prop :=
 ∃ c,c.w=w∧Good E st.m st.rn c∧(∀ x,Rd c (lk x st.σ) (a.tmps.getD x undef))∧a.tmps.size=st.nt∧a.defers=[]
theorem TokOk.lt {P:Program} {B:Nat} {c:Gh} {d j:Nat} (h:TokOk P B c d j) {b:Nat} (hb:(c.tv d j).ownBlock=some b):B≤b∧b < c.w.heap.size:=by
 rcases h with h | ⟨g,n,cap,cur,i,hv,hB,hg,_⟩
 ·rw [h] at hb;simp [Value.ownBlock] at hb
 ·rw [hv] at hb;simp [Value.ownBlock] at hb;subst hb
  exact ⟨hB,(Array.getElem?_eq_some_iff.1 hg).1⟩
theorem BoxOk.lt {B:Nat} {L:Nat→Prop} {c:Gh} {d:Nat} {ls:List AV} (h:BoxOk B L c d ls):(B≤c.β d∨L (c.β d))∧c.β d < c.w.heap.size:=by
 obtain ⟨cs,T,hB,hg,_⟩:=h
 exact ⟨hB,(Array.getElem?_eq_some_iff.1 hg).1⟩
theorem Good.slt {E:En} {m:List (Nat × List AV)} {rn:Nat} {c:Gh} (G:Good E m rn c) {b o:Nat} (h:c.S b o):b < c.w.heap.size:=by
 exact (G.sx b o h).lt
theorem Good.hle {E:En} {m:List (Nat × List AV)} {rn:Nat} {c:Gh} (G:Good E m rn c):E.w0.heap.size≤c.w.heap.size:=G.fr.size
theorem RK.same {w w':World} {g B n n':Nat} {bv:Value} (h:RK w g bv B n) (hB:∀ k,k < B→(k=g∨bvB bv k)→w'.heap[k]? = w.heap[k]?) (hn:n≤n'):RK w' g bv B n':=by
 obtain ⟨hg,T,p,h1,h2,h3,h4⟩:=h
 refine ⟨hg,T,p,(hB g hg (.inl rfl)).trans h1,h2,by omega,?_⟩
 rcases h4 with h4 | ⟨cb,off,len,cap,f,h5,h6,h8,h9⟩ | h4
 ·exact .inl h4
 ·exact .inr (.inl ⟨cb,off,len,cap,f,h5,h6,h8,fun k hk=>⟨(h9 k hk).1,(World.cell?_of_block (w:=w) (a:=⟨cb,off + k,none⟩) (hB cb (h6 (by omega)).2 (.inr ⟨off,len,cap,h5,by omega⟩))).trans (h9 k hk).2⟩⟩)
 ·exact .inr (.inr h4)
theorem grownL_of {w0 w w':World} {r:Option Nat} {L:Nat→Prop} (h:GrownL w0 w r L) (hos:w'.os=w.os) (ht:w'.tape=w.tape) (ho:w'.output=w.output) (hs:w.heap.size≤w'.heap.size)
  (hb:∀ k,k < w0.heap.size→¬ L k→w'.heap[k]? = w.heap[k]?):GrownL w0 w' r L :=
 ⟨hos.trans h.os,ht.trans h.tape,ho.trans h.output,Nat.le_trans h.size hs,fun k hk hr hL=>(hb k hk hL).trans (h.block k hk hr hL)⟩
theorem R.drew {E : En} {st : St} {a : Act} {w : World} (h : R E st a w) : R E st a w.drew := by
  obtain ⟨c, rfl, G, hσ, hn, hd⟩ := h
  have hkp : Keeps c.w c.S c.w.drew c.S := ⟨fun b o v hS hv => ⟨hS, hv⟩, fun b es ck hS hv => ⟨hS, hv⟩⟩
  have hk : ∀ {x v}, Rd c x v → Rd { c with w := c.w.drew } x v := fun h => h.keep (c' := { c with w := c.w.drew }) hkp rfl rfl rfl rfl
  refine ⟨{ c with w := c.w.drew }, rfl, ?_, fun x => hk (hσ x), hn, hd⟩
  exact { bl := G.bl, cg := G.cg, fr := grownL_of G.fr rfl rfl rfl (Nat.le_refl _) (fun _ _ _ => rfl), lx := G.lx, sx := G.sx, s1 := G.s1, sS := G.sS, sg := G.sg,
          box := fun d ls hl => by
            obtain ⟨cs, T, h1, h2, h3, h4, h5⟩ := G.box d ls hl
            exact ⟨cs, T, h1, h2, h3, fun j x hx => hk (h4 j x hx), h5⟩
          boxinj := G.boxinj, tok := G.tok, toktok := G.toktok, tokbox := G.tokbox, rk := G.rk }

def St.put (st:St) (dst:Option Nat) (x:AV):St :=
 match dst with
 | some d=>if d < st.nt then { st with σ:=(d,x)::st.σ } else st
 | none=>st
def St.strip (st:St) (d:Nat):St:={ st with σ:=stripσ d st.σ,m:=stripm d st.m }
def St.stripL (st:St) (d:Nat):St:={ st with σ:=stripLσ d st.σ,m:=stripLm d st.m }
theorem getD_set (a:Array Value) (d x:Nat) (v:Value) (hd:d < a.size):(a.setIfInBounds d v).getD x undef=if x=d then v else a.getD x undef:=by
 simp only [Array.getD_eq_getD_getElem?,Array.getElem?_setIfInBounds]
 by_cases h:d=x
 ·subst h;simp [hd]
 ·rw [if_neg h,if_neg (fun e=>h e.symm)]
theorem putR {c:Gh} {st:St} {a:Act} {dst:Option Nat} {x:AV} {v:Value} (hσ:∀ x,Rd c (lk x st.σ) (a.tmps.getD x undef)) (hn:a.tmps.size=st.nt) (hv:Rd c x v) :
  (∀ y,Rd c (lk y (st.put dst x).σ) ((a.put dst v).tmps.getD y undef))∧(a.put dst v).tmps.size=(st.put dst x).nt:=by
 unfold St.put Act.put
 cases dst with
 | none=>exact ⟨hσ,hn⟩
 | some d =>
  simp only
  split
  ·rename_i hlt
   refine ⟨fun y=>?_,by simpa using hn⟩
   simp only [lk,getD_set _ _ _ _ (hn ▸ hlt)]
   split
   ·exact hv
   ·exact hσ y
  ·rename_i hge
   refine ⟨fun y=>?_,by simpa using hn⟩
   have:a.tmps.setIfInBounds d v=a.tmps:=by
    apply Array.setIfInBounds_eq_of_size_le;omega
   simp only [this]
   exact hσ y
theorem put_m (st:St) (dst:Option Nat) (x:AV):(st.put dst x).m=st.m:=by
 unfold St.put;split<;>try split
 all_goals rfl
theorem put_rn (st:St) (dst:Option Nat) (x:AV):(st.put dst x).rn=st.rn:=by
 unfold St.put;split<;>try split
 all_goals rfl
theorem R.put {E:En} {st:St} {a:Act} {w:World} {c:Gh} (hw:c.w=w) (G:Good E st.m st.rn c) (hσ:∀ x,Rd c (lk x st.σ) (a.tmps.getD x undef)) (hn:a.tmps.size=st.nt) (hd:a.defers=[])
  {dst:Option Nat} {x:AV} {v:Value} (hv:Rd c x v):R E (st.put dst x) (a.put dst v) w:=by
 obtain ⟨h1,h2⟩:=putR (dst:=dst) hσ hn hv
 exact ⟨c,hw,by rw [put_m,put_rn];exact G,h1,h2,by cases dst<;>exact hd⟩
def leafOf:Value→AV
 | .slice none 0 0=>.nl
 | .agg _ | .tuple _=>.junk
 | u=>.v u
def AV.ofVal:Value→AV
 | .agg cs=>.agg (cs.toList.map leafOf)
 | u=>leafOf u
def St.ev (st:St):Operand→AV
 | .tmp t=>lk t st.σ
 | .const u=>AV.ofVal u
 | .global g=>.v (.pointer (some ⟨g,0,none⟩))
 | .func f=>.v (.func (.func f) #[] #[])
theorem Rd.leafOf (c:Gh) (u:Value):Rd c (leafOf u) u:=by
 unfold Eng.leafOf
 split
 ·exact .nl
 ·exact .junk _
 ·exact .junk _
 ·rename_i h1 h2 h3
  refine .v _ ?_
  cases u<;>simp_all [Value.oneCell']
theorem Rd.ofVal (c:Gh) (u:Value):Rd c (AV.ofVal u) u:=by
 unfold AV.ofVal
 split
 ·rename_i cs
  refine .agg _ cs (by simp) fun j x hx=>?_
  simp only [List.getElem?_map,Option.map_eq_some_iff] at hx
  obtain ⟨y,hy,rfl⟩:=hx
  have:cs.getD j undef=y:=by
   simp only [Array.getElem?_toList] at hy
   simp [Array.getD_eq_getD_getElem?,hy]
  rw [this];exact Rd.leafOf c y
 ·exact Rd.leafOf c _
theorem R.ev {c:Gh} {st:St} {a:Act} (hσ:∀ x,Rd c (lk x st.σ) (a.tmps.getD x undef)) (x:Operand):Rd c (st.ev x) (a.eval x):=by
 cases x with
 | tmp t=>exact hσ t
 | const v=>exact Rd.ofVal c v
 | global g=>exact .v _ rfl
 | func f=>exact .v _ rfl
def updN {α:Type} (f:Nat→α) (d:Nat) (v:α):Nat→α:=fun k=>if k=d then v else f k
theorem updN_same {α:Type} (f:Nat→α) (d:Nat) (v:α):updN f d v d=v:=by simp [updN]
theorem updN_ne {α:Type} (f:Nat→α) (d:Nat) (v:α) {k:Nat} (h:k≠d):updN f d v k=f k:=by simp [updN,h]
theorem keeps_of_lt {w w' : World} {S : Nat → Nat → Prop} {S' : Nat → Nat → Prop} (hS : ∀ b o, S b o → S' b o) (h : ∀ b o, S b o → b < w.heap.size → w'.heap[b]? = w.heap[b]?) : Keeps w S w' S' :=
  ⟨fun b o v hs hv => ⟨hS b o hs, (World.cell?_of_block (w := w) (a := ⟨b, o, none⟩) (h b o hs (World.block_lt_of_cell? w ⟨b, o, none⟩ hv))).trans hv⟩,
   fun b es ck hs hb => ⟨hS b 0 hs, (h b 0 hs (Array.getElem?_eq_some_iff.1 hb).1).trans hb⟩⟩

theorem keeps_alloc {w:World} {S S':Nat→Nat→Prop} (hS:∀ b o,S b o→S' b o) (o:Obj):Keeps w S (w.alloc o) S' :=
 keeps_of_lt hS fun b o' _ hb=>Below.heap_alloc w o b hb
theorem stripAll_get {d j:Nat} {ls:List AV} {x:AV} (h:(AV.stripAll d ls)[j]? = some x):∃ y,ls[j]? = some y∧x=y.strip d:=by
 rw [AV.stripAll_eq,List.getElem?_map] at h
 obtain ⟨y,hy,rfl⟩:=Option.map_eq_some_iff.1 h
 exact ⟨y,hy,rfl⟩
theorem stripAll_len (d:Nat) (ls:List AV):(AV.stripAll d ls).length=ls.length:=by simp [AV.stripAll_eq]
theorem stripLAll_get {d j:Nat} {ls:List AV} {x:AV} (h:(AV.stripLAll d ls)[j]? = some x):∃ y,ls[j]? = some y∧x=y.stripL d:=by
 rw [AV.stripLAll_eq,List.getElem?_map] at h
 obtain ⟨y,hy,rfl⟩:=Option.map_eq_some_iff.1 h
 exact ⟨y,hy,rfl⟩
theorem stripLAll_len (d:Nat) (ls:List AV):(AV.stripLAll d ls).length=ls.length:=by simp [AV.stripLAll_eq]
theorem s1_keep {E:En} {m:List (Nat × List AV)} {rn:Nat} {c:Gh} (G:Good E m rn c) {w':World} {S':Nat→Nat→Prop} (hk:Keeps c.w c.S w' S') {b o:Nat} {v:Value} (hS:c.S b o) (hv:w'.cell? ⟨b,o,none⟩=some v):v.oneCell'=true:=by
 rcases G.sx b o hS with ⟨u,hu⟩ | ⟨rfl,es,ck,hb⟩
 ·have:=(hk.1 b o u hS hu).2
  rw [this] at hv
  obtain rfl:u=v:=by simpa using hv
  exact G.s1 b o u hS hu
 ·have:=(hk.2 b es ck hS hb).2
  simp [World.cell?,this] at hv
theorem tok_keep {P:Program} {B:Nat} {c c':Gh} {d j:Nat} (h:TokOk P B c d j) (htv:c'.tv d j=c.tv d j) (hte:c'.te d j=c.te d j)
  (hb:∀ b,(c.tv d j).ownBlock=some b→c'.w.heap[b]? = c.w.heap[b]?∧∀ o,c'.S b o→c.S b o):TokOk P B c' d j:=by
 rcases h with h | ⟨g,n,cap,cur,i,h1,h2,h3,h4,h5,h6,h7,h8⟩
 ·exact .inl (htv.trans h)
 ·obtain ⟨e1,e2⟩:=hb g (by rw [h1];rfl)
  exact .inr ⟨g,n,cap,cur,i,htv.trans h1,h2,by rw [hte,e1];exact h3,h4,h5,by rw [hte];exact h6,h7,fun o ho hS=>h8 o ho (e2 o hS)⟩
theorem R.newboxG {E : En} {st : St} {a : Act} {w : World} {c : Gh} (hw : c.w = w) (G : Good E st.m st.rn c) (hσ : ∀ x, Rd c (lk x st.σ) (a.tmps.getD x undef)) (hn : a.tmps.size = st.nt) (hd : a.defers = [])
    (d : Nat) (hdl : d < 920) (ls : List AV) (cs : Array Value) (T : TypeId) (hcs : cs.size = ls.length) (hls : ∀ j x, ls[j]? = some x → Rd c x (cs.getD j undef)) (y : AV) (u : Value) (hy : ∀ c' : Gh, c'.β d = w.heap.size → Rd c' y u) :
    R E (St.put { (st.stripL d) with m := (d, AV.stripLAll d ls) :: (st.stripL d).m } (some d) y) (a.put (some d) u) (w.alloc (.cells cs T)) := by
  subst hw
  have hk : Keeps c.w c.S (c.w.alloc (.cells cs T)) c.S := keeps_alloc (fun _ _ h => h) _
  let c' : Gh := { c with w := c.w.alloc (.cells cs T), β := updN c.β d c.w.heap.size }
  have hsβ : ∀ k, k ≠ d → c'.β k = c.β k := fun k h => updN_ne _ _ _ h
  have hst : ∀ {x v}, Rd c x v → Rd c' (x.stripL d) v := fun h => h.stripL (c' := c') hk rfl hsβ rfl rfl
  have hle := G.hle
  have hold : ∀ k, k < c.w.heap.size → c'.w.heap[k]? = c.w.heap[k]? := fun k h => Below.heap_alloc c.w _ k h
  have hβd : c'.β d = c.w.heap.size := updN_same _ _ _
  refine R.put (st := { (st.stripL d) with m := (d, AV.stripLAll d ls) :: (st.stripL d).m }) (c := c') (w := c.w.alloc (.cells cs T)) rfl ?_ (fun x => ?_) hn hd ?_
  · refine { bl := fun k hk => (hsβ k (by omega)).trans (G.bl k hk), cg := G.cg, fr := grownL_of G.fr rfl rfl rfl (by show c.w.heap.size ≤ (c.w.alloc _).heap.size; simp) (fun k hk _ => hold k (by omega)), lx := G.lx, sx := fun b o h => ?_, s1 := fun b o v hS hv => s1_keep G hk hS hv, sS := G.sS, sg := G.sg, box := fun k ls' hl => ?_, boxinj := fun k k' l l' h1 h2 he => ?_,
              tok := fun k j => ?_, toktok := G.toktok, tokbox := fun k j b k' l hb hl he => ?_, rk := fun h => (G.rk h).same (fun k hk _ => hold k (by omega)) (Nat.le_refl _) }
    · exact hk.lk h (G.sx b o h)
    · simp only [lkm] at hl
      split at hl
      · rename_i hkd
        subst hkd
        obtain rfl : AV.stripLAll k ls = ls' := by simpa using hl
        refine ⟨cs, .cells (bk_lt hdl) cs T, .inl (by rw [hβd]; omega), by rw [hβd]; exact Go.heap_alloc_new c.w _, by rw [stripLAll_len]; exact hcs, fun j x hx => ?_, fun o ho => ?_⟩
        · obtain ⟨y, hy, rfl⟩ := stripLAll_get hx
          exact hst (hls j y hy)
        · rw [hβd] at ho
          have := G.slt (b := c.w.heap.size) (o := o) ho
          omega
      · rename_i hkd
        simp only [St.stripL, lkm_stripL d k hkd, Option.map_eq_some_iff] at hl
        obtain ⟨l, hl, rfl⟩ := hl
        have hb := (G.box k l hl).lt
        obtain ⟨cs0, T0, b1, b2, b3, b4, b5⟩ := G.box k l hl
        refine ⟨cs0, T0, by rw [hsβ k hkd]; exact b1, by rw [hsβ k hkd, hold _ hb.2]; exact b2, by rw [stripLAll_len]; exact b3, fun j x hx => ?_, fun o ho => b5 o (by rw [hsβ k hkd] at ho; exact ho)⟩
        obtain ⟨y, hy, rfl⟩ := stripLAll_get hx
        exact hst (b4 j y hy)
    · by_cases e : k = d
      · by_cases e' : k' = d
        · exact e.trans e'.symm
        · simp only [lkm, e', if_false, St.stripL, lkm_stripL d k' e', Option.map_eq_some_iff] at h2
          obtain ⟨l2, h2, _⟩ := h2
          have := (G.box k' l2 h2).lt.2
          rw [e, hβd, hsβ k' e'] at he
          omega
      · simp only [lkm, e, if_false, St.stripL, lkm_stripL d k e, Option.map_eq_some_iff] at h1
        obtain ⟨l1, h1, _⟩ := h1
        have := (G.box k l1 h1).lt.2
        by_cases e' : k' = d
        · rw [e', hβd, hsβ k e] at he
          omega
        · simp only [lkm, e', if_false, St.stripL, lkm_stripL d k' e', Option.map_eq_some_iff] at h2
          obtain ⟨l2, h2, _⟩ := h2
          rw [hsβ k e, hsβ k' e'] at he
          exact G.boxinj k k' l1 l2 h1 h2 he
    · have ht := G.tok k j
      exact tok_keep ht rfl rfl fun b hb => ⟨hold b (ht.lt hb).2, fun _ h => h⟩
    · have ht := (G.tok k j).lt hb
      by_cases e : k' = d
      · rw [e, hβd] at he; omega
      · simp only [lkm, e, if_false, St.stripL, lkm_stripL d k' e, Option.map_eq_some_iff] at hl
        obtain ⟨l, hl, _⟩ := hl
        rw [hsβ k' e] at he
        exact G.tokbox k j b k' l hb hl he
  · simp only [St.stripL, lk_stripL]
    exact hst (hσ x)
  · exact hy c' hβd

theorem R.newbox {E:En} {st:St} {a:Act} {w:World} {c:Gh} (hw:c.w=w) (G:Good E st.m st.rn c) (hσ:∀ x,Rd c (lk x st.σ) (a.tmps.getD x undef)) (hn:a.tmps.size=st.nt) (hd:a.defers=[])
  (d:Nat) (hdl:d < 920) (ls:List AV) (cs:Array Value) (T:TypeId) (hcs:cs.size=ls.length) (hls:∀ j x,ls[j]? = some x→Rd c x (cs.getD j undef)) :
  R E (St.put { (st.stripL d) with m:=(d,AV.stripLAll d ls)::(st.stripL d).m } (some d) (.loc d 0)) (a.put (some d) (.pointer (some ⟨w.heap.size,0,none⟩))) (w.alloc (.cells cs T)) :=
 R.newboxG hw G hσ hn hd d hdl ls cs T hcs hls _ _ (fun c' h=>by rw [← h];exact .loc d 0 (bk_lt hdl))
def setL:List AV→Nat→List AV→List AV
 | ls,_,[]=>ls
 | ls,off,x::r=>setL (ls.set off x) (off + 1) r
theorem setL_len (r:List AV):∀ (ls:List AV) (off:Nat),(setL ls off r).length=ls.length:=by
 induction r with
 | nil=>intro ls off;rfl
 | cons x r ih=>intro ls off;simp [setL,ih]
def setA:Array Value→Nat→List Value→Array Value
 | cs,_,[]=>cs
 | cs,off,v::r=>setA (cs.setIfInBounds off v) (off + 1) r
theorem setA_size (r:List Value):∀ (cs:Array Value) (off:Nat),(setA cs off r).size=cs.size:=by
 induction r with
 | nil=>intro cs off;rfl
 | cons x r ih=>intro cs off;simp [setA,ih]
theorem setLA {c:Gh}:∀ (xs:List AV) (vs:List Value) (ls:List AV) (cs:Array Value) (off:Nat),xs.length=vs.length→(∀ (j:Nat) (x:AV) (v:Value),xs[j]? = some x→vs[j]? = some v→Rd c x v)→
  cs.size=ls.length→(∀ j x,ls[j]? = some x→Rd c x (cs.getD j undef))→∀ j x,(setL ls off xs)[j]? = some x→Rd c x ((setA cs off vs).getD j undef):=by
 intro xs
 induction xs with
 | nil =>
  intro vs ls cs off hl _ _ h j x hx
  obtain rfl:vs=[]:=by cases vs<;>simp_all
  exact h j x hx
 | cons y xs ih =>
  intro vs ls cs off hl hr hs h
  obtain ⟨v,vs,rfl⟩:∃ v vs',vs=v::vs':=by cases vs<;>simp_all
  simp only [setL,setA]
  refine ih vs _ _ (off + 1) (by simpa using hl) (fun j x u hx hu=>hr (j + 1) x u (by simpa using hx) (by simpa using hu)) (by simpa using hs) (fun j x hx=>?_)
  rw [List.getElem?_set] at hx
  by_cases e:off=j
  ·subst e
   simp only [if_true] at hx
   split at hx
   ·rename_i hlt
    obtain rfl:y=x:=by simpa using hx
    rw [getD_set _ _ _ _ (by omega),if_pos rfl]
    exact hr 0 y v rfl rfl
   ·simp at hx
  ·rw [if_neg e] at hx
   by_cases hb:off < cs.size
   ·rw [getD_set _ _ _ _ hb,if_neg (fun h=>e h.symm)]
    exact h j x hx
   ·rw [Array.setIfInBounds_eq_of_size_le (by omega)]
    exact h j x hx
theorem run_storeCells_box (P:Program) (g:Nat) (T:TypeId):∀ (vs:List Value) (off:Nat) (i:Nat) (cs:Array Value) (w:World),w.heap[g]? = some (.cells cs T (0,0))→off + i + vs.length≤cs.size→(∀ v ∈ vs,v.oneCell'=true)→
  ∃ w',(storeCells ⟨g,off,none⟩ vs i).run P w = .ok () w'∧w'.heap[g]? = some (.cells (setA cs (off + i) vs) T (0,0))∧w'.heap.size=w.heap.size∧w'.os=w.os∧w'.tape=w.tape∧w'.output=w.output∧∀ k,k≠g→w'.heap[k]? = w.heap[k]? := by
 intro vs
 induction vs with
 | nil=>intro off i cs w hg _ _;exact ⟨w,by simp [storeCells],hg,rfl,rfl,rfl,rfl,fun _ _=>rfl⟩
 | cons v vs ih =>
  intro off i cs w hg hsz hv
  have hadd:(⟨g,off,none⟩:Addr).add i=⟨g,off + i,none⟩:=by unfold Addr.add;split<;>simp_all
  have hlt:off + i < cs.size:=by simp at hsz;omega
  have hc:w.cell? ⟨g,off + i,none⟩=some cs[off + i]:=by rw [cell_of_row w g _ cs T (0,0) hg];simp [hlt]
  have hfz:w.frozen? ⟨g,off + i,none⟩=false:=frozen_of_row w g _ cs T hg
  have hst:(store ⟨g,off + i,none⟩ v).run P w = .ok () (w.setCell ⟨g,off + i,none⟩ v):=by
   rw [run_store P w _ v .plain (hv v (by simp))]
   simp [hc,hfz]
  have hg':(w.setCell ⟨g,off + i,none⟩ v).heap[g]? = some (.cells (cs.setIfInBounds (off + i) v) T (0,0)):=heap_setCell_same w g (off + i) cs T v hg
  obtain ⟨w',h1,h2,h3,h4,h5,h6,h7⟩:=ih off (i + 1) (cs.setIfInBounds (off + i) v) _ hg' (by simp at hsz ⊢;omega) (fun u hu=>hv u (by simp [hu]))
  refine ⟨w',?_,?_,by rw [h3];simp,h4,h5,h6,fun k hk=>(h7 k hk).trans (heap_setCell_other w _ k v hk)⟩
  ·simp only [storeCells,Sem.run_bind,hadd,hst,Result.andThen_ok,h1]
  ·simpa [setA,Nat.add_assoc] using h2
theorem R.setboxG {E : En} {st : St} {a : Act} {w w' : World} {c : Gh} (hw : c.w = w) (G : Good E st.m st.rn c) (hσ : ∀ x, Rd c (lk x st.σ) (a.tmps.getD x undef))
    {d off : Nat} {ls xs : List AV} {vs : List Value} (hl : lkm d st.m = some ls) (hlen : xs.length = vs.length) (hxv : ∀ (j : Nat) (x : AV) (v : Value), xs[j]? = some x → vs[j]? = some v → Rd c x v)
    {cs : Array Value} {T : TypeId} (hcs : w.heap[c.β d]? = some (.cells cs T (0, 0)))
    (h1 : w'.heap[c.β d]? = some (.cells (setA cs off vs) T (0, 0))) (h2 : w'.heap.size = w.heap.size) (h3 : w'.os = w.os) (h4 : w'.tape = w.tape) (h5 : w'.output = w.output) (h6 : ∀ k, k ≠ c.β d → w'.heap[k]? = w.heap[k]?) :
    Good E ((d, setL ls off xs) :: st.m) st.rn { c with w := w' } ∧ ∀ x, Rd { c with w := w' } (lk x st.σ) (a.tmps.getD x undef) := by
  subst hw
  have hbd := G.box d ls hl
  have hnS : ∀ o, ¬ c.S (c.β d) o := by obtain ⟨_, _, _, _, _, _, h⟩ := hbd; exact h
  have hk : Keeps c.w c.S w' c.S := keeps_of_lt (fun _ _ h => h) fun b o hs _ => h6 b (fun e => hnS o (e ▸ hs))
  let c' : Gh := { c with w := w' }
  have hrd : ∀ {x v}, Rd c x v → Rd c' x v := fun h => h.keep (c' := c') hk rfl rfl rfl rfl
  refine ⟨?_, fun x => hrd (hσ x)⟩
  refine { bl := G.bl, cg := G.cg, fr := grownL_of G.fr h3 h4 h5 (by show c.w.heap.size ≤ w'.heap.size; omega) (fun k hk hL => h6 k (fun e => by
              rcases hbd.lt.1 with h | h
              · omega
              · exact hL (e ▸ h))), lx := G.lx, sx := fun b o h => ?_, s1 := fun b o v hS hv => s1_keep G hk hS hv, sS := G.sS, sg := G.sg, box := fun k ls' hl' => ?_, boxinj := fun k k' l l' e1 e2 he => ?_,
            tok := fun k j => ?_, toktok := G.toktok, tokbox := fun k j b k' l hb hl' he => ?_, rk := fun h => (G.rk h).same (fun k hk hk2 => h6 k (fun e => by
              rcases hbd.lt.1 with h' | h'
              · omega
              · have := G.lx h _ h'
                rw [← e] at this
                rcases hk2 with h2 | h2
                · exact this.1 h2
                · exact this.2 h2)) (Nat.le_refl _) }
  · exact hk.lk h (G.sx b o h)
  · simp only [lkm] at hl'
    split at hl'
    · rename_i e
      subst e
      obtain rfl : setL ls off xs = ls' := by simpa using hl'
      obtain ⟨cs0, T0, b1, b2, b3, b4, b5⟩ := hbd
      rw [hcs] at b2
      obtain ⟨o0, hk0⟩ := T0
      obtain rfl := Option.some.inj b2
      cases hk0 with
      | cells _ _ hb0 =>
      refine ⟨setA cs off vs, .cells hb0 _ T, b1, h1, by rw [setA_size, setL_len]; exact b3, ?_, b5⟩
      exact setLA xs vs ls cs off hlen (fun j x v hx hv => hrd (hxv j x v hx hv)) b3 (fun j x hx => hrd (b4 j x hx))
    · rename_i e
      obtain ⟨cs0, T0, b1, b2, b3, b4, b5⟩ := G.box k ls' hl'
      refine ⟨cs0, T0, b1, ?_, b3, fun j x hx => hrd (b4 j x hx), b5⟩
      show w'.heap[c.β k]? = _
      rw [h6 _ (fun ee => e (G.boxinj k d ls' ls hl' hl ee))]; exact b2
  · have get : ∀ k l, lkm k ((d, setL ls off xs) :: st.m) = some l → ∃ l', lkm k st.m = some l' := fun k l h => by
      simp only [lkm] at h
      split at h
      · rename_i e; exact ⟨ls, e ▸ hl⟩
      · exact ⟨l, h⟩
    obtain ⟨l1, e1⟩ := get k l e1
    obtain ⟨l2, e2⟩ := get k' l' e2
    exact G.boxinj k k' l1 l2 e1 e2 he
  · have ht := G.tok k j
    exact tok_keep ht rfl rfl fun b hb => ⟨h6 b (fun e => G.tokbox k j b d ls hb hl e.symm), fun _ h => h⟩
  · simp only [lkm] at hl'
    split at hl'
    · rename_i e; subst e; exact G.tokbox k j b k' ls hb hl he
    · exact G.tokbox k j b k' l hb hl' he

theorem R.setbox {E:En} {st:St} {a:Act} {w w':World} {c:Gh} (hw:c.w=w) (G:Good E st.m st.rn c) (hσ:∀ x,Rd c (lk x st.σ) (a.tmps.getD x undef)) (hn:a.tmps.size=st.nt) (hd:a.defers=[])
  {d off:Nat} {ls xs:List AV} {vs:List Value} (hl:lkm d st.m=some ls) (hlen:xs.length=vs.length) (hxv:∀ (j:Nat) (x:AV) (v:Value),xs[j]? = some x→vs[j]? = some v→Rd c x v)
  {cs:Array Value} {T:TypeId} (hcs:w.heap[c.β d]? = some (.cells cs T (0,0)))
  (h1:w'.heap[c.β d]? = some (.cells (setA cs off vs) T (0,0))) (h2:w'.heap.size=w.heap.size) (h3:w'.os=w.os) (h4:w'.tape=w.tape) (h5:w'.output=w.output) (h6:∀ k,k≠c.β d→w'.heap[k]? = w.heap[k]?) :
  R E { st with m:=(d,setL ls off xs)::st.m } a w':=by
 obtain ⟨G',hσ'⟩:=R.setboxG hw G hσ hl hlen hxv hcs h1 h2 h3 h4 h5 h6
 exact ⟨_,rfl,G',hσ',hn,hd⟩
def updNN {α:Type} (f:Nat→Nat→α) (d e:Nat) (v:α):Nat→Nat→α:=fun k j=>if k=d∧j=e then v else f k j
theorem updNN_same {α:Type} (f:Nat→Nat→α) (d e:Nat) (v:α):updNN f d e v d e=v:=by simp [updNN]
theorem updNN_ne {α:Type} (f:Nat→Nat→α) (d e:Nat) (v:α) {k j:Nat} (h:¬ (k=d∧j=e)):updNN f d e v k j=f k j:=by simp [updNN,h]
def addS (S:Nat→Nat→Prop) (b k:Nat):Nat→Nat→Prop:=fun b' o=>S b' o∨(b'=b∧o < k)
theorem strip_m_get {d k:Nat} {m:List (Nat × List AV)} {ls:List AV} (h:lkm k (stripm d m)=some ls):∃ l,lkm k m=some l∧ls=AV.stripAll d l:=by
 rw [lkm_strip,Option.map_eq_some_iff] at h
 obtain ⟨l,h,rfl⟩:=h
 exact ⟨l,h,rfl⟩
theorem sb_tv (c:Gh) (s j:Nat) (u:Value):SameBut s c { c with tv:=updNN c.tv s j u } :=
 ⟨rfl,rfl,fun _ _ h=>updNN_ne _ _ _ _ (fun hh=>h hh.1),fun _ _ _=>rfl⟩
theorem sb_tok (c:Gh) (s j d:Nat) (u val:Value) (e:TypeId) (w':World) (S':Nat→Nat→Prop) :
  SameBut d { c with tv:=updNN c.tv s j u } { c with w:=w',S:=S',tv:=updNN (updNN c.tv s j u) d 0 val,te:=updNN c.te d 0 e } :=
 ⟨rfl,rfl,fun _ _ h=>updNN_ne _ _ _ _ (fun hh=>h hh.1),fun _ _ h=>updNN_ne _ _ _ _ (fun hh=>h hh.1)⟩
theorem Rd.tok2 {c:Gh} {x:AV} {v:Value} (h:Rd c x v) (d s j:Nat) (w':World) (S':Nat→Nat→Prop) (e:TypeId) (val:Value) (hkeep:Keeps c.w c.S w' S') :
  Rd { c with w:=w',S:=S',tv:=updNN (updNN c.tv s j (.slice none 0 0)) d 0 val,te:=updNN c.te d 0 e } ((x.strip s).strip d) v :=
 (Rd.strip (c:=c) (c':={ c with tv:=updNN c.tv s j (.slice none 0 0) }) (Keeps.same (fun _ _ h=>h) fun _ _ _=>rfl) (sb_tv c s j _) h).strip hkeep (sb_tok c s j d _ val e w' S')
theorem Good.tokstep {E : En} {m : List (Nat × List AV)} {rn : Nat} {c : Gh} (G : Good E m rn c) (d s j : Nat) (w' : World) (e : TypeId) (i : TypeInfo) (hi : E.P.info? e = some i) (val : Value)
    (b n cap : Nat) (cur : Array Value) (hval : val = .slice (some ⟨b, 0, none⟩) n cap) (hcur : w'.heap[b]? = some (.cells cur e (0, 0))) (hn : n ≤ cap) (hcap : cap ≤ maxLen) (hsz : cur.size = cap * i.size)
    (hb : c.w.heap.size ≤ b ∨ (c.tv s j).ownBlock = some b) (hbB : E.w0.heap.size ≤ b)
    (hos : w'.os = c.w.os) (ht : w'.tape = c.w.tape) (ho : w'.output = c.w.output) (hs : c.w.heap.size ≤ w'.heap.size)
    (hold : ∀ k, k < c.w.heap.size → k ≠ b → w'.heap[k]? = c.w.heap[k]?) (hkeep : Keeps c.w c.S w' (addS c.S b (n * i.size))) (hSb : ∀ o, c.S b o → o < n * i.size) (hone : ∀ o, o < n * i.size → (cur.getD o undef).oneCell' = true) :
    Good E (stripm d (stripm s m)) rn { c with w := w', S := addS c.S b (n * i.size), tv := updNN (updNN c.tv s j (.slice none 0 0)) d 0 val, te := updNN c.te d 0 e } ∧
    Keeps c.w c.S w' (addS c.S b (n * i.size)) := by
  refine ⟨?_, hkeep⟩
  have hle := G.hle
  have hne_own : ∀ k l b', (c.tv k l).ownBlock = some b' → ¬ (k = s ∧ l = j) → b' ≠ b := by
    intro k l b' hb' hkl e
    rcases hb with h | h
    · have := ((G.tok k l).lt hb').2; omega
    · exact hkl (G.toktok k l s j b (e ▸ hb') h)
  have hbox_ne : ∀ k ls, lkm k m = some ls → c.β k ≠ b := by
    intro k ls hl e
    rcases hb with h | h
    · have := (G.box k ls hl).lt.2; omega
    · exact G.tokbox s j b k ls h hl e
  let c' : Gh := { c with w := w', S := addS c.S b (n * i.size), tv := updNN (updNN c.tv s j (.slice none 0 0)) d 0 val, te := updNN c.te d 0 e }
  have hownval : val.ownBlock = some b := by rw [hval]; rfl
  have htv : ∀ k l b', (c'.tv k l).ownBlock = some b' → (k = d ∧ l = 0 ∧ b' = b) ∨ (¬ (k = d ∧ l = 0) ∧ ¬ (k = s ∧ l = j) ∧ (c.tv k l).ownBlock = some b' ∧ b' ≠ b) := by
    intro k l b' h
    by_cases h1 : k = d ∧ l = 0
    · obtain ⟨rfl, rfl⟩ := h1
      have : c'.tv k 0 = val := updNN_same _ _ _ _
      rw [this, hownval] at h
      exact .inl ⟨rfl, rfl, by simpa using h.symm⟩
    · have e1 : c'.tv k l = updNN c.tv s j (.slice none 0 0) k l := updNN_ne _ _ _ _ h1
      by_cases h2 : k = s ∧ l = j
      · obtain ⟨rfl, rfl⟩ := h2
        rw [e1, updNN_same] at h
        simp [Value.ownBlock] at h
      · rw [e1, updNN_ne _ _ _ _ h2] at h
        exact .inr ⟨h1, h2, h, hne_own k l b' h h2⟩
  refine { bl := G.bl, cg := G.cg, fr := grownL_of G.fr hos ht ho hs (fun k hk _ => hold k (by omega) (by omega)), lx := G.lx, sx := fun b' o h => ?_, s1 := fun b' o v h hv => ?_, sS := fun b' o h => (h.elim (fun h => G.sS b' o h) (fun h => .inl (by omega))), sg := fun hd o h => ?_, box := fun k ls' hl => ?_, boxinj := fun k k' l l' h1 h2 he => ?_,
            tok := fun k l => ?_, toktok := fun k l k' l' b' h1 h2 => ?_, tokbox := fun k l b' k' l' hb' hl' he => ?_, rk := fun h => (G.rk h).same (fun k hk _ => hold k (by omega) (by omega)) (Nat.le_refl _) }
  · rcases h with h | ⟨rfl, h⟩
    · exact hkeep.lk h (G.sx b' o h)
    · refine .inl ⟨cur[o]'(by rw [hsz]; exact Nat.lt_of_lt_of_le h (Nat.mul_le_mul_right _ hn)), ?_⟩
      rw [cell_of_row w' b' o cur e (0, 0) hcur]
      simp [Nat.lt_of_lt_of_le h (Nat.mul_le_mul_right _ hn), hsz]
  · rcases h with h | ⟨rfl, h⟩
    · exact s1_keep G hkeep h hv
    · have hlt : o < cur.size := by rw [hsz]; exact Nat.lt_of_lt_of_le h (Nat.mul_le_mul_right _ hn)
      have hc : w'.cell? ⟨b', o, none⟩ = some v := hv
      rw [cell_of_row w' b' o cur e (0, 0) hcur] at hc
      have := hone o h
      rw [Array.getD_eq_getD_getElem?, hc] at this
      exact this
  · rcases h with h | ⟨h, _⟩
    · exact G.sg hd o h
    · have := (G.rk hd).1; omega
  · obtain ⟨l1, hl1, rfl⟩ := strip_m_get hl
    obtain ⟨l2, hl2, rfl⟩ := strip_m_get hl1
    obtain ⟨cs, T, b1, b2, b3, b4, b5⟩ := G.box k l2 hl2
    have hbk := (G.box k l2 hl2).lt
    refine ⟨cs, T, b1, ?_, by rw [stripAll_len, stripAll_len]; exact b3, fun q x hx => ?_, fun o h => ?_⟩
    · show w'.heap[c.β k]? = _
      rw [hold _ hbk.2 (hbox_ne k l2 hl2)]; exact b2
    · obtain ⟨y, hy, rfl⟩ := stripAll_get hx
      obtain ⟨z, hz, rfl⟩ := stripAll_get hy
      exact (b4 q z hz).tok2 d s j w' _ e val hkeep
    · rcases h with h | ⟨h, _⟩
      · exact b5 o h
      · exact hbox_ne k l2 hl2 h
  · obtain ⟨l1, h1a, _⟩ := strip_m_get h1
    obtain ⟨l2, h1b, _⟩ := strip_m_get h1a
    obtain ⟨l3, h2a, _⟩ := strip_m_get h2
    obtain ⟨l4, h2b, _⟩ := strip_m_get h2a
    exact G.boxinj k k' _ _ h1b h2b he
  · by_cases h1 : k = d ∧ l = 0
    · obtain ⟨rfl, rfl⟩ := h1
      refine .inr ⟨b, n, cap, cur, i, (updNN_same _ _ _ _).trans hval, hbB, ?_, hn, hcap, ?_, hsz, fun o hle' h => ?_⟩
      · show w'.heap[b]? = some (.cells cur (updNN c.te k 0 e k 0) (0, 0))
        rw [updNN_same]; exact hcur
      · show E.P.info? (updNN c.te k 0 e k 0) = _
        rw [updNN_same]; exact hi
      · rcases h with h | ⟨_, h⟩
        · have := hSb o h; omega
        · omega
    · have e1 : c'.tv k l = updNN c.tv s j (.slice none 0 0) k l := updNN_ne _ _ _ _ h1
      have e2 : c'.te k l = c.te k l := updNN_ne _ _ _ _ h1
      by_cases h2 : k = s ∧ l = j
      · obtain ⟨rfl, rfl⟩ := h2
        exact .inl (e1.trans (updNN_same _ _ _ _))
      · have e1' : c'.tv k l = c.tv k l := e1.trans (updNN_ne _ _ _ _ h2)
        refine tok_keep (G.tok k l) e1' e2 fun b' hb' => ⟨hold b' ((G.tok k l).lt hb').2 (hne_own k l b' hb' h2), fun o h => ?_⟩
        rcases h with h | ⟨h, _⟩
        · exact h
        · exact absurd h (hne_own k l b' hb' h2)
  · rcases htv k l b' h1 with ⟨rfl, rfl, rfl⟩ | ⟨a1, a2, a3, a4⟩
    · rcases htv k' l' b' h2 with ⟨rfl, rfl, _⟩ | ⟨c1, c2, c3, c4⟩
      · exact ⟨rfl, rfl⟩
      · exact absurd rfl c4
    · rcases htv k' l' b' h2 with ⟨rfl, rfl, h⟩ | ⟨c1, c2, c3, c4⟩
      · exact absurd h a4
      · exact G.toktok k l k' l' b' a3 c3
  · obtain ⟨l1, hl1, _⟩ := strip_m_get hl'
    obtain ⟨l2, hl2, _⟩ := strip_m_get hl1
    rcases htv k l b' hb' with ⟨rfl, rfl, rfl⟩ | ⟨a1, a2, a3, a4⟩
    · exact hbox_ne k' l2 hl2 he
    · exact G.tokbox k l b' k' l2 a3 hl2 he

theorem slots_tokstep {c:Gh} {σ:List (Nat × AV)} {a:Act} (hσ:∀ x,Rd c (lk x σ) (a.tmps.getD x undef)) (d s j:Nat) (w':World) (S':Nat→Nat→Prop) (e:TypeId) (val:Value) (hkeep:Keeps c.w c.S w' S') :
  ∀ x,Rd { c with w:=w',S:=S',tv:=updNN (updNN c.tv s j (.slice none 0 0)) d 0 val,te:=updNN c.te d 0 e } (lk x (stripσ d (stripσ s σ))) (a.tmps.getD x undef):=by
 intro x
 rw [lk_strip,lk_strip]
 exact (hσ x).tok2 d s j w' S' e val hkeep
theorem stripTok_idem (d:Nat) (t:Option (Nat × Nat × TypeId)):stripTok d (stripTok d t)=stripTok d t:=by
 rcases t with _ | ⟨k,j,e⟩
 ·rfl
 ·by_cases h:k=d<;>simp [stripTok,h]
mutual
theorem strip_idem (d:Nat):∀ x:AV,(x.strip d).strip d=x.strip d
 | .v _=>rfl
 | .nl=>rfl
 | .sl t _=>by simp only [AV.strip,stripTok_idem]
 | .agg ls=>by simp only [AV.strip,stripAll_idem d ls]
 | .tup ls=>by simp only [AV.strip,stripAll_idem d ls]
 | .cl _ _ ls=>by simp only [AV.strip,stripAll_idem d ls]
 | .loc _ _=>rfl
 | .mr _=>rfl
 | .mb _=>rfl
 | .xs _ _ _ _ _=>rfl
 | .el _=>rfl
 | .rd=>rfl
 | .dv _=>rfl
 | .junk=>rfl
theorem stripAll_idem (d:Nat):∀ l:List AV,AV.stripAll d (AV.stripAll d l)=AV.stripAll d l
 | []=>rfl
 | x::l=>by simp only [AV.stripAll,strip_idem d x,stripAll_idem d l]
end
theorem stripσ_idem (d:Nat) (l:List (Nat × AV)):stripσ d (stripσ d l)=stripσ d l:=by
 induction l with
 | nil=>rfl
 | cons p l ih=>obtain ⟨y,v⟩:=p;simp only [stripσ,strip_idem,ih]
theorem stripm_idem (d:Nat) (l:List (Nat × List AV)):stripm d (stripm d l)=stripm d l:=by
 induction l with
 | nil=>rfl
 | cons p l ih=>obtain ⟨y,v⟩:=p;simp only [stripm,stripAll_idem,ih]
def St.strip2 (st:St) (s d:Nat):St:=if s=d then st.strip d else (st.strip s).strip d
theorem strip2_σ (st:St) (s d:Nat):(st.strip2 s d).σ=stripσ d (stripσ s st.σ):=by
 unfold St.strip2
 split
 ·rename_i h;subst h;simp only [St.strip,stripσ_idem]
 ·rfl
theorem strip2_m (st:St) (s d:Nat):(st.strip2 s d).m=stripm d (stripm s st.m):=by
 unfold St.strip2
 split
 ·rename_i h;subst h;simp only [St.strip,stripm_idem]
 ·rfl
theorem strip2_rn (st:St) (s d:Nat):(st.strip2 s d).rn=st.rn:=by unfold St.strip2;split<;>rfl
theorem strip2_nt (st:St) (s d:Nat):(st.strip2 s d).nt=st.nt:=by unfold St.strip2;split<;>rfl
theorem strip2_eq (st:St) (s d:Nat):st.strip2 s d=(st.strip s).strip d:=by
 unfold St.strip2
 split
 ·rename_i h;subst h;simp only [St.strip,stripσ_idem,stripm_idem]
 ·rfl
theorem strip2_same (st:St) (d:Nat):st.strip2 d d=st.strip d:=by simp [St.strip2]
theorem div_row {n size k:Nat} (h:k < n * size):k / size < n∧k % size < size∧k / size * size + k % size=k:=by
 have hs:0 < size:=by
  rcases Nat.eq_zero_or_pos size with h0 | h0
  ·subst h0;simp at h
  ·exact h0
 exact ⟨Nat.div_lt_of_lt_mul (by rwa [Nat.mul_comm]),Nat.mod_lt _ hs,by rw [Nat.mul_comm];exact Nat.div_add_mod k size⟩
theorem RdD.one {w:World} {S:Nat→Nat→Prop} {x:DV} {v:Value} (h:RdD w S x v):v.oneCell'=true:=by
 cases h with
 | v x h=>exact h
 | nil=>rfl
 | em=>rfl
 | sl=>rfl
 | ptr=>rfl
 | ifc=>rfl
 | fn=>rfl
 | mp=>rfl
theorem R.tokstep {E:En} {st:St} {a:Act} {w:World} {c:Gh} (hw:c.w=w) (G:Good E st.m st.rn c) (hσ:∀ x,Rd c (lk x st.σ) (a.tmps.getD x undef)) (hnt:a.tmps.size=st.nt) (hd:a.defers=[])
  (d s j:Nat) (w':World) (e:TypeId) (i:TypeInfo) (hi:E.P.info? e=some i) (els:List (List DV))
  (b n cap:Nat) (cur:Array Value) (hcur:w'.heap[b]? = some (.cells cur e (0,0))) (hn:n≤cap) (hcap:cap≤maxLen) (hsz:cur.size=cap * i.size)
  (hb:w.heap.size≤b∨(c.tv s j).ownBlock=some b)
  (hos:w'.os=w.os) (ht:w'.tape=w.tape) (ho:w'.output=w.output) (hs:w.heap.size≤w'.heap.size)
  (hold:∀ k,k < w.heap.size→k≠b→w'.heap[k]? = w.heap[k]?) (hkeep:Keeps w c.S w' (addS c.S b (n * i.size))) (hSb:∀ o,c.S b o→o < n * i.size)
  (hen:els.length=n) (hrow:∀ row ∈ els,row.length=i.size) (hrd:∀ p q row x,els[p]? = some row→row[q]? = some x→RdD w c.S x (cur.getD (p * i.size + q) undef)) :
  R E ((st.strip2 s d).put (some d) (.sl (some (d,0,e)) els)) (a.put (some d) (.slice (some ⟨b,0,none⟩) n cap)) w':=by
 subst hw
 have hbB:E.w0.heap.size≤b:=by
  rcases hb with h | h
  ·exact Nat.le_trans G.hle h
  ·exact ((G.tok s j).lt h).1
 have hone:∀ o,o < n * i.size→(cur.getD o undef).oneCell'=true:=fun o ho'=>by
  obtain ⟨h1,h2,h3⟩:=div_row ho'
  have e1:els[o / i.size]? = some (els[o / i.size]'(by omega)):=List.getElem?_eq_getElem (by omega)
  have hl:(els[o / i.size]'(by omega)).length=i.size:=hrow _ (List.getElem_mem _)
  have e2:(els[o / i.size]'(by omega))[o % i.size]? = some ((els[o / i.size]'(by omega))[o % i.size]'(by omega)):=List.getElem?_eq_getElem (by omega)
  have:=(hrd _ _ _ _ e1 e2).one
  rwa [h3] at this
 have hr:RdD w' (addS c.S b (n * i.size)) (.sl els) (.slice (some ⟨b,0,none⟩) n cap):=by
  refine .sl els b 0 n cap i.size (fun k=>cur.getD k undef) hen.symm hn hrow (fun k hk=>⟨.inr ⟨rfl,by omega⟩,?_⟩) (fun p q row x hp hq=>(hrd p q row x hp hq).keep hkeep)
  have hlt:k < cur.size:=by rw [hsz];exact Nat.lt_of_lt_of_le hk (Nat.mul_le_mul_right _ hn)
  rw [cell_of_row _ _ _ cur e (0,0) hcur]
  simp [hlt,Array.getD_eq_getD_getElem?]
 obtain ⟨G',_⟩:=G.tokstep d s j w' e i hi (.slice (some ⟨b,0,none⟩) n cap) b n cap cur rfl hcur hn hcap hsz hb hbB hos ht ho hs hold hkeep hSb hone
 refine R.put (st:=st.strip2 s d) (c:={ c with w:=w',S:=addS c.S b (n * i.size),tv:=updNN (updNN c.tv s j (.slice none 0 0)) d 0 (.slice (some ⟨b,0,none⟩) n cap),te:=updNN c.te d 0 e }) rfl (by rw [strip2_m,strip2_rn];exact G') ?_ (by rw [strip2_nt];exact hnt) hd (.sl _ _ _ hr ⟨updNN_same _ _ _ _,updNN_same _ _ _ _⟩)
 rw [strip2_σ]
 exact slots_tokstep hσ d s j w' _ e _ hkeep
theorem R.toknil {E : En} {st : St} {a : Act} {w : World} {c : Gh} (hw : c.w = w) (G : Good E st.m st.rn c) (hσ : ∀ x, Rd c (lk x st.σ) (a.tmps.getD x undef))
    (d : Nat) (e : TypeId) : ∃ c' : Gh, c'.w = w ∧ Good E (stripm d st.m) st.rn c' ∧ (∀ x, Rd c' (lk x (stripσ d st.σ)) (a.tmps.getD x undef)) ∧ c'.tv d 0 = .slice none 0 0 ∧ c'.te d 0 = e ∧ c'.S = c.S := by
  subst hw
  let c' : Gh := { c with tv := updNN c.tv d 0 (.slice none 0 0), te := updNN c.te d 0 e }
  have hk : Keeps c.w c.S c'.w c'.S := Keeps.same (fun _ _ h => h) fun _ _ _ => rfl
  have hs : SameBut d c c' := ⟨rfl, rfl, fun _ _ h => updNN_ne _ _ _ _ (fun hh => h hh.1), fun _ _ h => updNN_ne _ _ _ _ (fun hh => h hh.1)⟩
  have htv : ∀ k l b', (c'.tv k l).ownBlock = some b' → (c.tv k l).ownBlock = some b' := fun k l b' h => by
    by_cases h1 : k = d ∧ l = 0
    · obtain ⟨rfl, rfl⟩ := h1
      rw [show c'.tv k 0 = .slice none 0 0 from updNN_same _ _ _ _] at h; simp [Value.ownBlock] at h
    · rw [show c'.tv k l = c.tv k l from updNN_ne _ _ _ _ h1] at h; exact h
  refine ⟨c', rfl, ?_, fun x => by rw [lk_strip]; exact (hσ x).strip hk hs, updNN_same _ _ _ _, updNN_same _ _ _ _, rfl⟩
  refine { bl := G.bl, cg := G.cg, fr := G.fr, lx := G.lx, sx := G.sx, s1 := G.s1, sS := G.sS, sg := G.sg, box := fun k ls' hl => ?_, boxinj := fun k k' l l' h1 h2 he => ?_,
            tok := fun k l => ?_, toktok := fun k l k' l' b' h1 h2 => G.toktok k l k' l' b' (htv _ _ _ h1) (htv _ _ _ h2), tokbox := fun k l b' k' l' hb' hl' he => ?_, rk := G.rk }
  · obtain ⟨l1, hl1, rfl⟩ := strip_m_get hl
    obtain ⟨cs, T, b1, b2, b3, b4, b5⟩ := G.box k l1 hl1
    refine ⟨cs, T, b1, b2, by rw [stripAll_len]; exact b3, fun q x hx => ?_, b5⟩
    obtain ⟨y, hy, rfl⟩ := stripAll_get hx
    exact (b4 q y hy).strip hk hs
  · obtain ⟨l1, h1a, _⟩ := strip_m_get h1
    obtain ⟨l2, h2a, _⟩ := strip_m_get h2
    exact G.boxinj k k' _ _ h1a h2a he
  · by_cases h1 : k = d ∧ l = 0
    · obtain ⟨rfl, rfl⟩ := h1; exact .inl (updNN_same _ _ _ _)
    · exact tok_keep (G.tok k l) (updNN_ne _ _ _ _ h1) (updNN_ne _ _ _ _ h1) fun _ _ => ⟨rfl, fun _ h => h⟩
  · obtain ⟨l1, hl1, _⟩ := strip_m_get hl'
    exact G.tokbox k l b' k' l1 (htv _ _ _ hb') hl1 he

theorem R.newrow {E:En} {st:St} {a:Act} {w:World} {c:Gh} (hw:c.w=w) (G:Good E st.m st.rn c) (hσ:∀ x,Rd c (lk x st.σ) (a.tmps.getD x undef)) (hnt:a.tmps.size=st.nt) (hd:a.defers=[])
  (d:Nat) (w':World) (hw':w'=w∨w'=w.drew) (e:TypeId) (i:TypeInfo) (hi:E.P.info? e=some i) (els:List (List DV)) (n cap:Nat) (cur:Array Value) (hn:els.length=n) (hcap:n≤cap) (hmax:cap≤maxLen) (hsz:cur.size=cap * i.size)
  (hrow:∀ row ∈ els,row.length=i.size) (hrd:∀ p q row x,els[p]? = some row→row[q]? = some x→RdD w c.S x (cur.getD (p * i.size + q) undef)) :
  R E ((st.strip d).put (some d) (.sl (some (d,0,e)) els)) (a.put (some d) (.slice (some ⟨w.heap.size,0,none⟩) n cap)) (w'.alloc (.cells cur e)):=by
 have hh:w'.heap=w.heap:=by rcases hw' with rfl | rfl<;>rfl
 have e1:w'.os=w.os:=by rcases hw' with rfl | rfl<;>rfl
 have e2:w'.tape=w.tape:=by rcases hw' with rfl | rfl<;>rfl
 have e3:w'.output=w.output:=by rcases hw' with rfl | rfl<;>rfl
 have hsize:w'.heap.size=w.heap.size:=by rw [hh]
 have hnew:(w'.alloc (.cells cur e)).heap[w.heap.size]? = some (.cells cur e (0,0)):=by rw [← hsize];exact Go.heap_alloc_new w' _
 have hold:∀ k,k < w.heap.size→(w'.alloc (.cells cur e)).heap[k]? = w.heap[k]? := fun k hk=>by rw [Below.heap_alloc w' _ k (by omega),hh]
 have hkeep:Keeps w c.S (w'.alloc (.cells cur e)) (addS c.S w.heap.size (n * i.size)) :=
  keeps_of_lt (fun _ _ h=>.inl h) fun b o _ hb=>hold b hb
 rw [← strip2_same]
 refine R.tokstep hw G hσ hnt hd d d 0 (w'.alloc (.cells cur e)) e i hi els w.heap.size n cap cur hnew hcap hmax hsz (.inl (Nat.le_refl _)) e1 e2 e3 (by simp;omega) (fun k hk _=>hold k hk) hkeep
  (fun o ho=>by subst hw;have:=G.slt ho;omega) hn hrow hrd
theorem RdD.slice {w:World} {S:Nat→Nat→Prop} {els:List (List DV)} {v:Value} (h:RdD w S (.sl els) v) :
  (els=[]∧v = .slice none 0 0)∨(∃ b off cap size,∃ f:Nat→Value,v = .slice (some ⟨b,off,none⟩) els.length cap∧els.length≤cap∧(∀ row ∈ els,row.length=size)∧
   (∀ k,k < els.length * size→S b (off + k)∧w.cell? ⟨b,off + k,none⟩=some (f k))∧(∀ i j row x,els[i]? = some row→row[j]? = some x→RdD w S x (f (i * size + j))))∨(els=[]∧∃ a,v = .slice (some a) 0 0):=by
 cases h with
 | nil=>exact .inl ⟨rfl,rfl⟩
 | em a=>exact .inr (.inr ⟨rfl,a,rfl⟩)
 | sl els b off n cap size f hn hcap hs hc hh=>subst hn;exact .inr (.inl ⟨b,off,cap,size,f,rfl,hcap,hs,hc,hh⟩)
theorem rd_concat {w:World} {S:Nat→Nat→Prop} {els ys:List (List DV)} {sz:Nat} {fx fy:Nat→Value} {cur:Array Value} (hrow:∀ row ∈ els++ys,row.length=sz)
  (hx:∀ i j row x,els[i]? = some row→row[j]? = some x→RdD w S x (fx (i * sz + j))) (hy:∀ i j row x,ys[i]? = some row→row[j]? = some x→RdD w S x (fy (i * sz + j)))
  (h1:∀ k,k < els.length * sz→cur.getD k undef=fx k) (h2:∀ k,k < ys.length * sz→cur.getD (els.length * sz + k) undef=fy k) :
  ∀ p q row x,(els++ys)[p]? = some row→row[q]? = some x→RdD w S x (cur.getD (p * sz + q) undef):=by
 intro p q row x hp hq
 have hl:=hrow row (List.mem_of_getElem? hp)
 have hqs:q < sz:=by rw [← hl];exact (List.getElem?_eq_some_iff.1 hq).1
 by_cases h:p < els.length
 ·rw [List.getElem?_append_left h] at hp
  rw [h1 _ (by have:=Nat.mul_le_mul_right sz (show p + 1≤els.length by omega);rw [Nat.add_mul] at this;omega)]
  exact hx p q row x hp hq
 ·rw [List.getElem?_append_right (by omega)] at hp
  have hlt:=(List.getElem?_eq_some_iff.1 hp).1
  have e:p * sz + q=els.length * sz + ((p - els.length) * sz + q):=by
   have:p * sz=els.length * sz + (p - els.length) * sz:=by rw [← Nat.add_mul];congr 1;omega
   omega
  rw [e,h2 _ (by have:=Nat.mul_le_mul_right sz (show (p - els.length) + 1≤ys.length by omega);rw [Nat.add_mul] at this;omega)]
  exact hy _ q row x hp hq
theorem add_none (b off j:Nat):(⟨b,off,none⟩:Addr).add j=⟨b,off + j,none⟩:=by unfold Addr.add;split<;>simp_all
theorem size_of_rows {els:List (List DV)} {a b:Nat} (h1:∀ row ∈ els,row.length=a) (h2:∀ row ∈ els,row.length=b) (hne:els≠[]):a=b:=by
 obtain ⟨r,l,rfl⟩:=List.exists_cons_of_ne_nil hne
 exact (h1 r (by simp)).symm.trans (h2 r (by simp))
section
variable {E:En} {st:St} {a:Act} {w:World} {c:Gh}
theorem run_append_empty (P:Program) (w:World) (t ty e:TypeId) (i:TypeInfo) (ht:P.underlying t=some (.slice e)) (hi:P.info? e=some i) (base:Option Addr) (n cap:Nat) (hn:n≤cap) (vy:Value)
  (hy:vy = .slice none 0 0∨∃ y cp,vy = .slice (some y) 0 cp):(Builtin.append_ #[t,t] ty #[.slice base n cap,vy]).run P w = .ok (.slice base n cap) w:=by
 rcases hy with rfl | ⟨y,cp,rfl⟩
 ·cases base<;>simp [Builtin.append_,run_underlying ht,sizeOf,typeInfo,hi,Builtin.lenOf,hn,Builtin.firstCells,storeCells]
 ·cases base<;>simp [Builtin.append_,run_underlying ht,sizeOf,typeInfo,hi,Builtin.lenOf,hn,Builtin.firstCells,storeCells,loadCells,loadCellsFrom]
theorem getD_list_map (f:Nat→Value) (n k:Nat) (h:k < n) (r:List Value):(((List.range n).map f)++r)[k]? = some (f k):=by
 rw [List.getElem?_append_left (by simpa using h)]
 simp [h]
theorem R.append (hw:c.w=w) (G:Good E st.m st.rn c) (hσ:∀ x,Rd c (lk x st.σ) (a.tmps.getD x undef)) (hnt:a.tmps.size=st.nt) (hd:a.defers=[])
  (d s j:Nat) (t ty e:TypeId) (i:TypeInfo) (z:Value) (ht:E.P.underlying t=some (.slice e)) (hi:E.P.info? e=some i) (hz:i.zero=some z) (hzs:z.cells.size=i.size) (hby:i.bytes≤32768)
  (els ys:List (List DV)) (vx vy:Value) (hx:(els=[]∧vx = .slice none 0 0∧s=d)∨(RdD w c.S (.sl els) vx∧c.tv s j=vx∧c.te s j=e)) (hy:RdD w c.S (.sl ys) vy)
  (hrow:∀ row ∈ els++ys,row.length=i.size) (hlen:els.length + ys.length≤4294967296) :
  ∃ v' w',(Builtin.append_ #[t,t] ty #[vx,vy]).run E.P w = .ok v' w'∧R E ((st.strip2 s d).put (some d) (.sl (some (d,0,e)) (els++ys))) (a.put (some d) v') w':=by
 have hbytes:(els.length + ys.length) * i.bytes≤140737488355328:=by
  have:=Nat.mul_le_mul hlen hby;omega
 have hmax:els.length + ys.length≤maxLen:=by unfold maxLen;omega
 have hnil:els=[]→vx = .slice none 0 0→ys≠[]→∃ v' w',(Builtin.append_ #[t,t] ty #[vx,vy]).run E.P w = .ok v' w'∧R E ((st.strip d).put (some d) (.sl (some (d,0,e)) (els++ys))) (a.put (some d) v') w':=by
  rintro rfl rfl hne
  rcases hy.slice with ⟨h0,_⟩ | ⟨yb,yoff,ycap,ysize,yf,rfl,_,ys1,ys2,ys3⟩ | ⟨h0,_⟩
  ·exact absurd h0 hne
  rotate_left
  ·exact absurd h0 hne
  obtain rfl:ysize=i.size:=size_of_rows ys1 (fun row hr=>hrow row (by simpa using hr)) hne
  have hm:0 < ys.length:=List.length_pos_iff.2 hne
  simp only [List.length_nil,Nat.zero_add] at hbytes hmax
  have hr:=run_append_nil (P:=E.P) w t ty e i z ht hi hz ⟨yb,yoff,none⟩ ys.length ycap ((List.range (ys.length * i.size)).map yf) (by simp)
   (fun j v hv=>by
    rw [add_none]
    simp only [List.getElem?_map,Option.map_eq_some_iff] at hv
    obtain ⟨k,hk,rfl⟩:=hv
    obtain ⟨h1,rfl⟩:=List.getElem?_eq_some_iff.1 hk
    simp only [List.length_range] at h1
    simpa using (ys2 _ h1).2) hm (by unfold maxLen at hmax;omega) (by omega)
  have hge:=grownCap_ge w ys.length 0 e
  have hle:=grownCap_le_maxLen w ys.length 0 e hmax
  refine ⟨_,_,hr,?_⟩
  refine R.newrow hw G hσ hnt hd d w.drew (.inr rfl) e i hi ([]++ys) ys.length (grownCap w ys.length 0 e) _ rfl hge hle ?_ hrow ?_
  ·simp only [Array.size_append,List.size_toArray,size_zeroCells,hzs,List.length_map,List.length_range,← Nat.add_mul];congr 1;omega
  ·refine rd_concat (els:=[]) (fx:=yf) (fy:=yf) hrow (fun i j row x h=>by simp at h) ys3 (fun k hk=>by simp at hk) (fun k hk=>?_)
   simp only [List.length_nil,Nat.zero_mul,Nat.zero_add,Array.getD_eq_getD_getElem?]
   rw [← Array.getElem?_toList]
   simp only [Array.toList_append]
   rw [getD_list_map yf _ k hk];rfl
 by_cases hne:ys=[]
 ·subst hne
  have hye:vy = .slice none 0 0∨∃ y cp,vy = .slice (some y) 0 cp:=by
   rcases hy.slice with ⟨_,h⟩ | ⟨yb,yoff,ycap,ysize,yf,h,_⟩ | ⟨_,_,h⟩
   ·exact .inl h
   ·exact .inr ⟨_,_,h⟩
   ·exact .inr ⟨_,_,h⟩
  have hn0:els=[]→vx = .slice none 0 0→∃ v' w',(Builtin.append_ #[t,t] ty #[vx,vy]).run E.P w = .ok v' w'∧R E ((st.strip d).put (some d) (.sl (some (d,0,e)) (els++[]))) (a.put (some d) v') w':=by
   rintro rfl rfl
   refine ⟨_,_,run_append_empty E.P w t ty e i ht hi none 0 0 (Nat.le_refl _) vy hye,?_⟩
   obtain ⟨c',h1,h2,h3,h4,h5,h6⟩:=R.toknil hw G hσ d e
   exact R.put (st:=st.strip d) (c:=c') h1 h2 h3 hnt hd (.sl _ _ _ .nil ⟨h4,h5⟩)
  rcases hx with ⟨h1,h2,h3⟩ | ⟨h1,h2,h3⟩
  ·rw [h3,strip2_same];exact hn0 h1 h2
  ·rcases G.tok s j with h4 | ⟨g,n,cap,cur,i',t1,t2,t3,t4,t5,t6,t7,t8⟩
   ·rw [h2] at h4
    have he:els=[]:=by
     rcases h1.slice with ⟨h,_⟩ | ⟨_,_,_,_,_,h,_⟩ | ⟨h,_⟩
     ·exact h
     ·rw [h] at h4;simp at h4
     ·exact h
    subst he
    subst h4
    refine ⟨_,_,run_append_empty E.P w t ty e i ht hi none 0 0 (Nat.le_refl _) vy hye,?_⟩
    obtain ⟨c1,a1,a2,a3,a4,a5,a6⟩:=R.toknil hw G hσ s e
    obtain ⟨c',b1,b2,b3,b4,b5,b6⟩:=R.toknil (st:=st.strip s) a1 a2 a3 d e
    refine R.put (st:=st.strip2 s d) (c:=c') b1 (by rw [strip2_m,strip2_rn];exact b2) (by rw [strip2_σ];exact b3) (by rw [strip2_nt];exact hnt) hd (.sl _ _ _ .nil ⟨b4,b5⟩)
   ·rw [h2] at t1;subst t1
    rw [h3,hi] at t6
    obtain rfl:i=i':=by simpa using t6
    have hlen':els.length=n:=by
     rcases h1.slice with ⟨_,h⟩ | ⟨_,_,_,_,_,h,_⟩ | ⟨h0,_,h⟩
     ·simp at h
     ·simp at h;exact h.2.1.symm
     ·simp at h;rw [h0,h.2.1];rfl
    have hkeep:Keeps w c.S w (addS c.S g (n * i.size)):=Keeps.same (fun _ _ h=>.inl h) fun _ _ _=>rfl
    rw [h3] at t3
    refine ⟨_,_,run_append_empty E.P w t ty e i ht hi (some ⟨g,0,none⟩) n cap t4 vy hye,?_⟩
    rw [List.append_nil]
    refine R.tokstep hw G hσ hnt hd d s j w e i hi els g n cap cur (by subst hw;exact t3) t4 t5 t7 (.inr (by rw [h2];rfl)) rfl rfl rfl (Nat.le_refl _) (fun _ _ _=>rfl) hkeep (fun o ho=>Nat.lt_of_not_le fun h=>t8 o h ho) hlen' (fun row hr=>hrow row (by simpa using hr)) ?_
    intro p q row x hp hq
    rcases h1.slice with ⟨_,h⟩ | ⟨b0,off0,cap0,size0,f0,h,_,s1,s2,s3⟩ | ⟨h0,_⟩
    ·simp at h
    rotate_left
    ·rw [h0] at hp;simp at hp
    ·simp only [Value.slice.injEq,Option.some.injEq,Addr.mk.injEq,and_true] at h
     obtain ⟨⟨rfl,rfl⟩,_,_⟩:=h
     have hne':els≠[]:=fun h=>by simp [h] at hp
     obtain rfl:size0=i.size:=size_of_rows s1 (fun row hr=>hrow row (by simpa using hr)) hne'
     have hk:p * i.size + q < els.length * i.size:=by
      have h5:=(List.getElem?_eq_some_iff.1 hp).1
      have h6:=(List.getElem?_eq_some_iff.1 hq).1
      rw [hrow row (by simpa using List.mem_of_getElem? hp)] at h6
      have:=Nat.mul_le_mul_right i.size (show p + 1≤els.length by omega);rw [Nat.add_mul] at this;omega
     have hc:=(s2 _ hk).2
     rw [Nat.zero_add,← hw,cell_of_row c.w g _ cur e (0,0) t3] at hc
     rw [Array.getD_eq_getD_getElem?,hc]
     exact s3 p q row x hp hq
 ·rcases hx with ⟨h1,h2,h3⟩ | ⟨h1,h2,h3⟩
  ·rw [h3,strip2_same];exact hnil h1 h2 hne
  ·have gnews:∃ yb yoff ycap,∃ yf:Nat→Value,vy = .slice (some ⟨yb,yoff,none⟩) ys.length ycap∧(∀ k,k < ys.length * i.size→w.cell? ⟨yb,yoff + k,none⟩=some (yf k))∧(∀ i' j row x,ys[i']? = some row→row[j]? = some x→RdD w c.S x (yf (i' * i.size + j))):=by
    rcases hy.slice with ⟨h0,_⟩ | ⟨yb,yoff,ycap,ysize,yf,h,_,ys1,ys2,ys3⟩ | ⟨h0,_⟩
    ·exact absurd h0 hne
    rotate_left
    ·exact absurd h0 hne
    ·obtain rfl:ysize=i.size:=size_of_rows ys1 (fun row hr=>hrow row (by simp [hr])) hne
     exact ⟨yb,yoff,ycap,yf,h,fun k hk=>(ys2 k hk).2,ys3⟩
   obtain ⟨yb,yoff,ycap,yf,rfl,hyc,hyr⟩:=gnews
   have hm:0 < ys.length:=List.length_pos_iff.2 hne
   have hnews:∀ j v,((List.range (ys.length * i.size)).map yf)[j]? = some v→w.cell? ((⟨yb,yoff,none⟩:Addr).add j)=some v:=fun j v hv=>by
    rw [add_none]
    simp only [List.getElem?_map,Option.map_eq_some_iff] at hv
    obtain ⟨k,hk,rfl⟩:=hv
    obtain ⟨q1,rfl⟩:=List.getElem?_eq_some_iff.1 hk
    simp only [List.length_range] at q1
    simpa using hyc _ q1
   rcases G.tok s j with h4 | ⟨g,n,cap,cur,i',t1,t2,t3,t4,t5,t6,t7,t8⟩
   ·rw [h2] at h4
    have he:els=[]:=by
     rcases h1.slice with ⟨h,_⟩ | ⟨_,_,_,_,_,h,_⟩ | ⟨h,_⟩
     ·exact h
     ·rw [h] at h4;simp at h4
     ·exact h
    subst he
    subst h4
    simp only [List.length_nil,Nat.zero_add] at hbytes hmax
    have hr:=run_append_nil (P:=E.P) w t ty e i z ht hi hz ⟨yb,yoff,none⟩ ys.length ycap ((List.range (ys.length * i.size)).map yf) (by simp) hnews hm (by unfold maxLen at hmax;omega) (by omega)
    have hge:=grownCap_ge w ys.length 0 e
    have hle:=grownCap_le_maxLen w ys.length 0 e hmax
    refine ⟨_,_,hr,?_⟩
    obtain ⟨c1,a1,a2,a3,a4,a5,a6⟩:=R.toknil hw G hσ s e
    rw [strip2_eq]
    refine R.newrow (st:=st.strip s) a1 a2 a3 hnt hd d w.drew (.inr rfl) e i hi ([]++ys) ys.length (grownCap w ys.length 0 e) _ rfl hge hle ?_ hrow ?_
    ·simp only [Array.size_append,List.size_toArray,size_zeroCells,hzs,List.length_map,List.length_range,← Nat.add_mul];congr 1;omega
    ·rw [a6]
     refine rd_concat (els:=[]) (fx:=yf) (fy:=yf) hrow (fun i j row x h=>by simp at h) hyr (fun k hk=>by simp at hk) (fun k hk=>?_)
     simp only [List.length_nil,Nat.zero_mul,Nat.zero_add,Array.getD_eq_getD_getElem?]
     rw [← Array.getElem?_toList]
     simp only [Array.toList_append]
     rw [getD_list_map yf _ k hk];rfl
   ·rw [h2] at t1;subst t1
    rw [h3,hi] at t6
    obtain rfl:i=i':=by simpa using t6
    rw [h3,hw] at t3
    have hx':n=els.length∧(els≠[]→∃ f:Nat→Value,(∀ k,k < els.length * i.size→c.S g k∧cur[k]? = some (f k))∧∀ i' j row x,els[i']? = some row→row[j]? = some x→RdD w c.S x (f (i' * i.size + j))):=by
     rcases h1.slice with ⟨_,h⟩ | ⟨b0,off0,cap0,size0,f0,h,_,s1,s2,s3⟩ | ⟨h0,_,h⟩
     ·simp at h
     rotate_left
     ·simp at h;exact ⟨by rw [h0,h.2.1];rfl,fun hne'=>absurd h0 hne'⟩
     ·simp only [Value.slice.injEq,Option.some.injEq,Addr.mk.injEq,and_true] at h
      obtain ⟨⟨rfl,rfl⟩,hn',_⟩:=h
      refine ⟨hn',fun hne'=>?_⟩
      obtain rfl:size0=i.size:=size_of_rows s1 (fun row hr=>hrow row (by simp [hr])) hne'
      refine ⟨f0,fun k hk=>?_,s3⟩
      obtain ⟨p1,p2⟩:=s2 k hk
      rw [Nat.zero_add] at p1 p2
      rw [cell_of_row w g _ cur e (0,0) t3] at p2
      exact ⟨p1,p2⟩
    obtain ⟨hnl,hxr⟩:=hx'
    subst hnl
    have hxr':∃ f:Nat→Value,(∀ k,k < els.length * i.size→cur[k]? = some (f k))∧∀ i' j row x,els[i']? = some row→row[j]? = some x→RdD w c.S x (f (i' * i.size + j)):=by
     by_cases hne':els=[]
     ·exact ⟨fun _=>undef,fun k hk=>by simp [hne'] at hk,fun _ _ _ _ h=>by simp [hne'] at h⟩
     ·obtain ⟨f,f1,f2⟩:=hxr hne';exact ⟨f,fun k hk=>(f1 k hk).2,f2⟩
    obtain ⟨fx,fx1,fx2⟩:=hxr'
    have hcs:els.length * i.size≤cur.size:=by rw [t7];exact Nat.mul_le_mul_right _ t4
    by_cases hroom:els.length + ys.length≤cap
    ·have hfit:els.length * i.size + ((List.range (ys.length * i.size)).map yf).length≤cur.size:=by
      rw [t7];simp only [List.length_map,List.length_range,← Nat.add_mul];exact Nat.mul_le_mul_right _ hroom
     have hone:∀ u ∈ (List.range (ys.length * i.size)).map yf,u.oneCell'=true:=fun u hu=>by
      simp only [List.mem_map,List.mem_range] at hu
      obtain ⟨k,hk,rfl⟩:=hu
      obtain ⟨q1,q2,q3⟩:=div_row hk
      have e1:ys[k / i.size]? = some (ys[k / i.size]'q1):=List.getElem?_eq_getElem q1
      have hl:(ys[k / i.size]'q1).length=i.size:=hrow _ (by simp)
      have e2:(ys[k / i.size]'q1)[k % i.size]? = some ((ys[k / i.size]'q1)[k % i.size]'(by omega)):=List.getElem?_eq_getElem (by omega)
      have:=(hyr _ _ _ _ e1 e2).one
      rwa [q3] at this
     have hr:=run_append_room (P:=E.P) w t ty e i ht hi g els.length cap cur t3 ⟨yb,yoff,none⟩ ys.length ycap ((List.range (ys.length * i.size)).map yf) (by simp) hnews hone hroom hfit
     refine ⟨_,_,hr,?_⟩
     have hrowh:=setRow_heap w g cur (cur.toList.take (els.length * i.size)++(List.range (ys.length * i.size)).map yf++cur.toList.drop (els.length * i.size + ((List.range (ys.length * i.size)).map yf).length)).toArray e (0,0) t3
     have hother:=fun k (hk:k≠g)=>setRow_other w g k (cur.toList.take (els.length * i.size)++(List.range (ys.length * i.size)).map yf++cur.toList.drop (els.length * i.size + ((List.range (ys.length * i.size)).map yf).length)).toArray hk
     generalize hcur':(cur.toList.take (els.length * i.size)++(List.range (ys.length * i.size)).map yf++cur.toList.drop (els.length * i.size + ((List.range (ys.length * i.size)).map yf).length)).toArray=cur' at hrowh hother ⊢
     have hsz':cur'.size=cur.size:=by
      rw [← hcur'];simp only [List.size_toArray,List.length_append,List.length_take,List.length_drop,Array.length_toList,List.length_map,List.length_range]
      simp only [List.length_map,List.length_range] at hfit
      omega
     have g1:∀ k,k < els.length * i.size→cur'[k]? = cur[k]? := fun k hk=>by
      rw [← hcur']
      simp only [List.getElem?_toArray]
      rw [List.append_assoc,List.getElem?_append_left (by simp;omega),List.getElem?_take,if_pos hk,Array.getElem?_toList]
     have g2:∀ k,k < ys.length * i.size→cur'[els.length * i.size + k]? = some (yf k):=fun k hk=>by
      rw [← hcur']
      simp only [List.getElem?_toArray]
      rw [List.append_assoc,List.getElem?_append_right (by simp;omega)]
      rw [show els.length * i.size + k - (List.take (els.length * i.size) cur.toList).length=k from by simp;omega]
      exact getD_list_map yf _ k hk _
     have hcell:∀ o v,c.S g o→w.cell? ⟨g,o,none⟩=some v→(w.setRow g cur').cell? ⟨g,o,none⟩=some v:=fun o v hS hv=>by
      have ho:o < els.length * i.size:=Nat.lt_of_not_le fun h=>t8 o h hS
      rw [cell_of_row _ g o cur' e (0,0) hrowh,g1 o ho]
      rwa [cell_of_row w g o cur e (0,0) t3] at hv
     refine R.tokstep hw G hσ hnt hd d s j (w.setRow g cur') e i hi (els++ys) g (els.length + ys.length) cap cur' hrowh hroom t5 (by rw [hsz',t7]) (.inr (by rw [h2];rfl)) rfl rfl rfl (by simp) (fun k _ hk=>hother k hk) ?_ ?_ (by simp) hrow ?_
     ·refine ⟨fun b o v hS hv=>⟨.inl hS,?_⟩,fun b es ck hS hb'=>⟨.inl hS,?_⟩⟩
      ·by_cases hb:b=g
       ·subst hb;exact hcell o v hS hv
       ·exact (World.cell?_of_block (w:=w) (a:=⟨b,o,none⟩) (hother b hb)).trans hv
      ·by_cases hb:b=g
       ·subst hb;rw [t3] at hb';cases hb'
       ·exact (hother b hb).trans hb'
     ·intro o ho
      have:=Nat.lt_of_not_le fun h=>t8 o h ho
      rw [Nat.add_mul];omega
     ·refine rd_concat (fx:=fx) (fy:=yf) hrow fx2 hyr (fun k hk=>?_) (fun k hk=>?_)
      ·rw [Array.getD_eq_getD_getElem?,g1 k hk,fx1 k hk];rfl
      ·rw [Array.getD_eq_getD_getElem?,g2 k hk];rfl
    ·have holds:∀ j v,(cur.toList.take (els.length * i.size))[j]? = some v→w.cell? ((⟨g,0,none⟩:Addr).add j)=some v:=fun j v hv=>by
      rw [add_none,Nat.zero_add,cell_of_row w g j cur e (0,0) t3]
      rw [List.getElem?_take] at hv
      split at hv
      ·simpa using hv
      ·cases hv
     have hr:=run_append_grow (P:=E.P) w t ty e i z ht hi hz ⟨g,0,none⟩ els.length cap (cur.toList.take (els.length * i.size)) (by simp;omega) holds ⟨yb,yoff,none⟩ ys.length ycap ((List.range (ys.length * i.size)).map yf) (by simp) hnews (by omega)
      (by unfold maxLen at hmax;omega) (growslice_fits (by omega) hbytes)
     have hge:=grownCap_ge w (els.length + ys.length) cap e
     have hle:=grownCap_le_maxLen w (els.length + ys.length) cap e hmax
     refine ⟨_,_,hr,?_⟩
     obtain ⟨c1,a1,a2,a3,a4,a5,a6⟩:=R.toknil hw G hσ s e
     rw [strip2_eq]
     refine R.newrow (st:=st.strip s) a1 a2 a3 hnt hd d w.drew (.inr rfl) e i hi (els++ys) (els.length + ys.length) (grownCap w (els.length + ys.length) cap e) _ (by simp) hge hle ?_ hrow ?_
     ·simp only [Array.size_append,List.size_toArray,size_zeroCells,hzs,List.length_map,List.length_range,List.length_take,Array.length_toList,Nat.min_eq_left hcs,← Nat.add_mul];congr 1;omega
     ·rw [a6]
      have hlt:(cur.toList.take (els.length * i.size)).length=els.length * i.size:=by simp;omega
      refine rd_concat (fx:=fx) (fy:=yf) hrow fx2 hyr (fun k hk=>?_) (fun k hk=>?_)
      ·rw [Array.getD_eq_getD_getElem?,← Array.getElem?_toList]
       simp only [Array.toList_append,List.append_assoc]
       rw [List.getElem?_append_left (by rw [hlt];exact hk),List.getElem?_take,if_pos hk,Array.getElem?_toList,fx1 k hk];rfl
      ·rw [Array.getD_eq_getD_getElem?,← Array.getElem?_toList]
       simp only [Array.toList_append,List.append_assoc]
       rw [List.getElem?_append_right (by rw [hlt];omega),hlt,show els.length * i.size + k - els.length * i.size=k from by omega,getD_list_map yf _ k hk];rfl
end
mutual
def AV.er:AV→AV
 | .v x=>.v x
 | .nl=>.sl none []
 | .sl _ els=>.sl none els
 | .agg ls=>.agg (AV.erAll ls)
 | .tup ls=>.tup (AV.erAll ls)
 | .cl f b ls=>.cl f b (AV.erAll ls)
 | .loc _ _=>.junk
 | .xs _ _ _ _ _=>.junk
 | .el ls=>.el ls
 | .rd=>.rd
 | .dv x=>.dv x
 | .mr _=>.junk
 | .mb t=>.mb t
 | .junk=>.junk
def AV.erAll:List AV→List AV
 | []=>[]
 | x::l=>x.er::AV.erAll l
end
theorem erAll_eq (ls:List AV):AV.erAll ls=ls.map AV.er:=by
 induction ls with
 | nil=>rfl
 | cons x l ih=>simp [AV.erAll,ih]
def adoptTok (d:Nat):Option (Nat × Nat × TypeId)→Option (Nat × Nat × TypeId)
 | some (k,j,e)=>if k=0 then some (d,j,e) else none
 | none=>none
mutual
def AV.adopt (d:Nat):AV→AV
 | .v x=>.v x
 | .nl=>.nl
 | .sl t els=>.sl (adoptTok d t) els
 | .agg ls=>.agg (AV.adoptAll d ls)
 | .tup ls=>.tup (AV.adoptAll d ls)
 | .cl f b ls=>.cl f b (AV.adoptAll d ls)
 | .loc _ _=>.junk
 | .xs _ _ _ _ _=>.junk
 | .el ls=>.el ls
 | .rd=>.rd
 | .dv x=>.dv x
 | .mr _=>.junk
 | .mb t=>.mb t
 | .junk=>.junk
def AV.adoptAll (d:Nat):List AV→List AV
 | []=>[]
 | x::l=>x.adopt d::AV.adoptAll d l
end
theorem adoptAll_eq (d:Nat) (ls:List AV):AV.adoptAll d ls=ls.map (·.adopt d):=by
 induction ls with
 | nil=>rfl
 | cons x l ih=>simp [AV.adoptAll,ih]
theorem Rd.er {c c':Gh} (hk:Keeps c.w c.S c'.w c'.S) (hg:c'.g=c.g) {x:AV} {v:Value} (h:Rd c x v):Rd c' x.er v:=by
 induction h with
 | v x h=>exact .v x h
 | junk x=>exact .junk x
 | nl=>exact .sl none [] _ .nil trivial
 | rd=>rw [← hg];exact .rd
 | dv x v h=>exact .dv x v (h.keep hk)
 | loc k off=>exact .junk _
 | mr1=>exact .junk _
 | mr2=>exact .junk _
 | mb t=>exact .mb t
 | xs=>exact .junk _
 | sl tok els v h ht=>exact .sl none els v (h.keep hk) trivial
 | agg ls cs hn _ ih =>
  simp only [AV.er,erAll_eq]
  refine .agg _ cs (by simpa using hn) fun j x hx=>?_
  obtain ⟨y,hy,rfl⟩:=by simpa using hx
  exact ih j y hy
 | tup ls cs hn _ ih =>
  simp only [AV.er,erAll_eq]
  refine .tup _ cs (by simpa using hn) fun j x hx=>?_
  obtain ⟨y,hy,rfl⟩:=by simpa using hx
  exact ih j y hy
 | cl1 fu ls cs hn _ ih =>
  simp only [AV.er,erAll_eq]
  refine .cl1 fu _ cs (by simpa using hn) fun j x hx=>?_
  obtain ⟨y,hy,rfl⟩:=by simpa using hx
  exact ih j y hy
 | cl2 fu ls cs hn _ ih =>
  simp only [AV.er,erAll_eq]
  refine .cl2 fu _ cs (by simpa using hn) fun j x hx=>?_
  obtain ⟨y,hy,rfl⟩:=by simpa using hx
  exact ih j y hy
 | el ls b off f hc hh=>exact .el ls b off f (fun k hkk=>hk.1 _ _ _ (hc k hkk).1 (hc k hkk).2) (fun j x hx=>(hh j x hx).keep hk)
theorem Rd.adopt {c c':Gh} (d:Nat) (hk:Keeps c.w c.S c'.w c'.S) (hg:c'.g=c.g) (htv:∀ j,c'.tv d j=c.tv 0 j) (hte:∀ j,c'.te d j=c.te 0 j) {x:AV} {v:Value} (h:Rd c x v):Rd c' (x.adopt d) v:=by
 induction h with
 | v x h=>exact .v x h
 | junk x=>exact .junk x
 | nl=>exact .nl
 | rd=>rw [← hg];exact .rd
 | dv x v h=>exact .dv x v (h.keep hk)
 | loc k off=>exact .junk _
 | mr1=>exact .junk _
 | mr2=>exact .junk _
 | mb t=>exact .mb t
 | xs=>exact .junk _
 | sl tok els v h ht =>
  refine .sl _ els v (h.keep hk) ?_
  unfold adoptTok
  split
  ·split
   ·rename_i e;subst e;exact ⟨(htv _).trans ht.1,(hte _).trans ht.2⟩
   ·trivial
  ·trivial
 | agg ls cs hn _ ih =>
  simp only [AV.adopt,adoptAll_eq]
  refine .agg _ cs (by simpa using hn) fun j x hx=>?_
  obtain ⟨y,hy,rfl⟩:=by simpa using hx
  exact ih j y hy
 | tup ls cs hn _ ih =>
  simp only [AV.adopt,adoptAll_eq]
  refine .tup _ cs (by simpa using hn) fun j x hx=>?_
  obtain ⟨y,hy,rfl⟩:=by simpa using hx
  exact ih j y hy
 | cl1 fu ls cs hn _ ih =>
  simp only [AV.adopt,adoptAll_eq]
  refine .cl1 fu _ cs (by simpa using hn) fun j x hx=>?_
  obtain ⟨y,hy,rfl⟩:=by simpa using hx
  exact ih j y hy
 | cl2 fu ls cs hn _ ih =>
  simp only [AV.adopt,adoptAll_eq]
  refine .cl2 fu _ cs (by simpa using hn) fun j x hx=>?_
  obtain ⟨y,hy,rfl⟩:=by simpa using hx
  exact ih j y hy
 | el ls b off f hc hh=>exact .el ls b off f (fun k hkk=>hk.1 _ _ _ (hc k hkk).1 (hc k hkk).2) (fun j x hx=>(hh j x hx).keep hk)
structure Con where
 pre:List AV→Prop
 post:List AV→AV→Prop
 cost:Nat:=0
 draws:Bool:=false
 own:Bool:=false
 inv:World→Prop:=fun _=>True
def lim:Nat:=1099511627776
structure Out (P:Program) (C:Con) (c:Gh) (bv:Value) (B n:Nat) (r:AV) (v:Value) (w':World) (c':Gh):Prop where
 w:c'.w=w'
 g:c'.g=c.g
 rd:Rd c' r v
 fr:c.w.grownBy w' (if C.draws then some c.g else none)
 S:∀ b o,c'.S b o→c.w.heap.size≤b∨c.S b o
 sx:∀ b o,c'.S b o→Lk c'.w b o
 s1:∀ b o v,c'.S b o→c'.w.cell? ⟨b,o,none⟩=some v→v.oneCell'=true
 tok:∀ d j,TokOk P c.w.heap.size c' d j
 toktok:∀ d j d' j' b,(c'.tv d j).ownBlock=some b→(c'.tv d' j').ownBlock=some b→d=d'∧j=j'
 rk:C.draws=true→RK w' c.g bv B (n + C.cost)
def Valid (P:Program) (f:FuncId) (C:Con):Prop :=
 ∀ (c:Gh) (args:List AV) (vs:Array Value) (bv:Value) (B n:Nat),vs.size=args.length→(∀ j x,args[j]? = some x→Rd c x (vs.getD j undef))→(∀ x ∈ args,x.er=x)→C.pre args→C.inv c.w→
  (∀ b o,c.S b o→Lk c.w b o)→(∀ b o v,c.S b o→c.w.cell? ⟨b,o,none⟩=some v→v.oneCell'=true)→
  (C.draws=true→(∀ o,¬ c.S c.g o)∧RK c.w c.g bv B n∧B≤c.w.heap.size∧n + C.cost≤lim)→
  Calls P f vs c.w fun e w'=>∃ v r c',e = .returned v∧C.post args r∧Out P C c bv B n r v w' c'
mutual
theorem er_er:∀ x:AV,x.er.er=x.er
 | .v _=>rfl
 | .nl=>rfl
 | .sl _ _=>rfl
 | .agg ls=>by simp only [AV.er,erAll_er ls]
 | .tup ls=>by simp only [AV.er,erAll_er ls]
 | .cl _ _ ls=>by simp only [AV.er,erAll_er ls]
 | .loc _ _=>rfl
 | .xs _ _ _ _ _=>rfl
 | .el _=>rfl
 | .rd=>rfl
 | .dv _=>rfl
 | .mr _=>rfl
 | .mb _=>rfl
 | .junk=>rfl
theorem erAll_er:∀ l:List AV,AV.erAll (AV.erAll l)=AV.erAll l
 | []=>rfl
 | x::l=>by simp only [AV.erAll,er_er x,erAll_er l]
end
def St.called (st:St) (dst:Option Nat) (C:Con) (r:AV):St :=
 match C.own,dst with
 | true,some d=>{ ((st.strip d).put dst (r.adopt d)) with rn:=st.rn + C.cost }
 | _,_=>{ (st.put dst r.er) with rn:=st.rn + C.cost }
section
variable {E:En} {st:St} {a:Act} {w:World} {c:Gh}
theorem keeps_called (hw:c.w=w) (G:Good E st.m st.rn c) {C:Con} (hdr:C.draws=true→E.draws=true) {bv:Value} {B n:Nat} {r:AV} {v:Value} {w':World} {c':Gh} (O:Out E.P C c bv B n r v w' c') :
  (∀ k,k < w.heap.size→(C.draws=true→k≠E.g)→w'.heap[k]? = w.heap[k]?)∧Keeps w c.S w' (fun b o=>c.S b o∨c'.S b o)∧Keeps w' c'.S w' (fun b o=>c.S b o∨c'.S b o):=by
 subst hw
 have hb:∀ k,k < c.w.heap.size→(C.draws=true→k≠E.g)→w'.heap[k]? = c.w.heap[k]? := fun k hk hne=>O.fr.block k hk (by
  split
  ·rename_i h;rw [G.cg];simpa using hne h
  ·simp)
 exact ⟨hb,Keeps.same (fun _ _ h=>.inl h) fun b o hS=>hb b (G.slt hS) (fun h e=>by subst e;exact G.sg (hdr h) o hS),Keeps.same (fun _ _ h=>.inr h) fun _ _ _=>rfl⟩
theorem R.called (hw : c.w = w) (G : Good E st.m st.rn c) (hσ : ∀ x, Rd c (lk x st.σ) (a.tmps.getD x undef)) (hnt : a.tmps.size = st.nt) (hd : a.defers = [])
    (dst : Option Nat) {C : Con} (hdr : C.draws = true → E.draws = true) {r : AV} {v : Value} {w' : World} {c' : Gh} (O : Out E.P C c E.bv E.w0.heap.size st.rn r v w' c') :
    R E (st.called dst C r) (a.put dst v) w' := by
  obtain ⟨hb, hk, hk'⟩ := keeps_called hw G hdr O
  subst hw
  have hle := G.hle
  -- the general step, tokens of key d given (or none)
  have gen : ∀ (m' : List (Nat × List AV)) (σ' : List (Nat × AV)) (c2 : Gh) (x : AV), c2.w = w' → c2.S = (fun b o => c.S b o ∨ c'.S b o) → c2.β = c.β → c2.g = c.g →
      (∀ d ls, lkm d m' = some ls → ∃ l, lkm d st.m = some l ∧ l.length = ls.length ∧ ∀ (j : Nat) (x : AV), ls[j]? = some x → ∃ y : AV, l[j]? = some y ∧ ∀ v, Rd c y v → Rd c2 x v) →
      (∀ x, Rd c2 (lk x σ') (a.tmps.getD x undef)) → Rd c2 x v →
      (∀ d j, TokOk E.P E.w0.heap.size c2 d j) → (∀ d j d' j' b, (c2.tv d j).ownBlock = some b → (c2.tv d' j').ownBlock = some b → d = d' ∧ j = j') →
      (∀ d j b k ls, (c2.tv d j).ownBlock = some b → lkm k st.m = some ls → c.β k ≠ b) →
      R E { (St.put { st with m := m', σ := σ' } dst x) with rn := st.rn + C.cost } (a.put dst v) w' := by
    intro m' σ' c2 x e1 e2 e3 e4 hm hs hx htok htt htb
    have G2 : Good E m' (st.rn + C.cost) c2 := by
      refine { bl := fun k hk => by rw [e3]; exact G.bl k hk, cg := e4.trans G.cg, fr := ?_, lx := G.lx, sx := fun b o h => ?_, s1 := fun b o u h hu => ?_, sS := fun b o h => ?_, sg := fun hdd o h => ?_, box := fun k ls hl => ?_, boxinj := fun k k' l l' h1 h2 he => ?_,
                tok := htok, toktok := htt, tokbox := fun d j b k l h1 h2 he => ?_, rk := fun hdd => ?_ }
      · rw [e1]
        have := O.fr
        exact ⟨this.os.trans G.fr.os, this.tape.trans G.fr.tape, this.output.trans G.fr.output, Nat.le_trans G.fr.size this.size, fun k hk1 hk2 hk3 => (hb k (Nat.lt_of_lt_of_le hk1 G.fr.size) (fun h e => by rw [hdr h] at hk2; simp [e] at hk2)).trans (G.fr.block k hk1 hk2 hk3)⟩
      · rw [e2] at h; rw [e1]
        rcases h with h | h
        · exact hk.lk h (G.sx b o h)
        · rw [← O.w]; exact O.sx b o h
      · rw [e2] at h; rw [e1] at hu
        rcases h with h | h
        · exact s1_keep G hk h hu
        · exact O.s1 b o u h (by rw [O.w]; exact hu)
      · rw [e2] at h
        rcases h with h | h
        · exact G.sS b o h
        · rcases O.S _ _ h with h' | h'
          · exact .inl (by omega)
          · exact G.sS b o h'
      · rw [e2] at h
        rcases h with h | h
        · exact G.sg hdd o h
        · rcases O.S _ _ h with h' | h'
          · have := (G.rk hdd).1; omega
          · exact G.sg hdd o h'
      · obtain ⟨l, h1, h2, h3⟩ := hm k ls hl
        obtain ⟨cs, T, b1, b2, b3, b4, b5⟩ := G.box k l h1
        have hbk := (G.box k l h1).lt
        refine ⟨cs, T, by rw [e3]; exact b1, ?_, by rw [← h2]; exact b3, fun j x hx => ?_, fun o ho => ?_⟩
        · rw [e1, e3, hb _ hbk.2 (fun h e => by
            rcases hbk.1 with h' | h'
            · have := (G.rk (hdr h)).1; omega
            · exact (G.lx (hdr h) _ h').1 e)]; exact b2
        · obtain ⟨y, hy, hyx⟩ := h3 j x hx
          exact hyx _ (b4 j y hy)
        · rw [e2, e3] at ho
          rcases ho with ho | ho
          · exact b5 o ho
          · rcases O.S _ _ ho with h' | h'
            · omega
            · exact b5 o h'
      · obtain ⟨l1, h1, _⟩ := hm k l h1
        obtain ⟨l2, h2, _⟩ := hm k' l' h2
        rw [e3] at he
        exact G.boxinj k k' _ _ h1 h2 he
      · obtain ⟨l1, h2, _⟩ := hm k l h2
        rw [e3] at he
        exact htb d j b k l1 h1 h2 he
      · rw [e1]
        by_cases hcd : C.draws = true
        · have := O.rk hcd; rwa [G.cg] at this
        · exact (G.rk hdd).same (fun k hk1 _ => hb k (by omega) (fun h => absurd h hcd)) (by omega)
    obtain ⟨h1, h2⟩ := putR (st := { st with m := m', σ := σ' }) (dst := dst) hs hnt hx
    exact ⟨c2, e1, by rw [put_m]; exact G2, h1, h2, by cases dst <;> exact hd⟩
  have tokold : ∀ (c2 : Gh) (d j : Nat), c2.w = w' → c2.S = (fun b o => c.S b o ∨ c'.S b o) → c2.tv d j = c.tv d j → c2.te d j = c.te d j → TokOk E.P E.w0.heap.size c2 d j := fun c2 d j e1 e2 e3 e4 => by
    refine tok_keep (G.tok d j) e3 e4 fun b hbk => ?_
    have hl := (G.tok d j).lt hbk
    refine ⟨by rw [e1]; exact hb b hl.2 (fun h e => by have := (G.rk (hdr h)).1; omega), fun o h => ?_⟩
    rw [e2] at h
    rcases h with h | h
    · exact h
    · rcases O.S _ _ h with h' | h'
      · omega
      · exact h'
  unfold St.called
  split
  · rename_i d hown
    let c2 : Gh := { c with w := w', S := fun b o => c.S b o ∨ c'.S b o, tv := fun k j => if k = d then c'.tv 0 j else c.tv k j, te := fun k j => if k = d then c'.te 0 j else c.te k j }
    have hs : SameBut d c c2 := ⟨rfl, rfl, fun _ _ h => if_neg h, fun _ _ h => if_neg h⟩
    have hkk : Keeps c'.w c'.S c2.w c2.S := by rw [O.w]; exact hk'
    have hlt : ∀ j b, (c'.tv 0 j).ownBlock = some b → c.w.heap.size ≤ b := fun j b h => ((O.tok 0 j).lt h).1
    refine gen (stripm d st.m) (stripσ d st.σ) c2 (r.adopt d) rfl rfl rfl rfl (fun k ls hl => ?_) (fun x => ?_) ?_ (fun k j => ?_) (fun k j k' j' b h1 h2 => ?_) (fun k j b k' ls h1 h2 he => ?_)
    · obtain ⟨l, h1, rfl⟩ := strip_m_get hl
      refine ⟨l, h1, (stripAll_len _ _).symm, fun j x hx => ?_⟩
      obtain ⟨y, hy, rfl⟩ := stripAll_get hx
      exact ⟨y, hy, fun v hv => hv.strip hk hs⟩
    · rw [lk_strip]; exact (hσ x).strip hk hs
    · exact O.rd.adopt d hkk O.g.symm (fun j => if_pos rfl) (fun j => if_pos rfl)
    · by_cases e : k = d
      · subst e
        rcases O.tok 0 j with h | ⟨g, n, cap, cur, i, t1, t2, t3, t4, t5, t6, t7, t8⟩
        · exact .inl ((if_pos rfl).trans h)
        · have hte : c2.te k j = c'.te 0 j := if_pos rfl
          refine .inr ⟨g, n, cap, cur, i, (if_pos rfl).trans t1, by omega, by rw [hte]; rw [O.w] at t3; exact t3, t4, t5, by rw [hte]; exact t6, t7, fun o ho h => ?_⟩
          rcases h with h | h
          · have := G.slt h; omega
          · exact t8 o ho h
      · exact tokold c2 k j rfl rfl (if_neg e) (if_neg e)
    · by_cases e : k = d
      · rw [show c2.tv k j = c'.tv 0 j from if_pos e] at h1
        by_cases e' : k' = d
        · rw [show c2.tv k' j' = c'.tv 0 j' from if_pos e'] at h2
          exact ⟨e.trans e'.symm, (O.toktok 0 j 0 j' b h1 h2).2⟩
        · rw [show c2.tv k' j' = c.tv k' j' from if_neg e'] at h2
          have := hlt j b h1; have := ((G.tok k' j').lt h2).2; omega
      · rw [show c2.tv k j = c.tv k j from if_neg e] at h1
        by_cases e' : k' = d
        · rw [show c2.tv k' j' = c'.tv 0 j' from if_pos e'] at h2
          have := hlt j' b h2; have := ((G.tok k j).lt h1).2; omega
        · rw [show c2.tv k' j' = c.tv k' j' from if_neg e'] at h2
          exact G.toktok k j k' j' b h1 h2
    · by_cases e : k = d
      · rw [show c2.tv k j = c'.tv 0 j from if_pos e] at h1
        have := hlt j b h1; have := (G.box k' ls h2).lt.2; omega
      · rw [show c2.tv k j = c.tv k j from if_neg e] at h1
        exact G.tokbox k j b k' ls h1 h2 he
  · let c2 : Gh := { c with w := w', S := fun b o => c.S b o ∨ c'.S b o }
    have hkp : ∀ {x v}, Rd c x v → Rd c2 x v := fun h => h.keep (c' := c2) hk rfl rfl rfl rfl
    have hkk : Keeps c'.w c'.S c2.w c2.S := by rw [O.w]; exact hk'
    exact gen st.m st.σ c2 r.er rfl rfl rfl rfl (fun k ls hl => ⟨ls, hl, rfl, fun j x hx => ⟨x, hx, fun v hv => hkp hv⟩⟩) (fun x => hkp (hσ x)) (O.rd.er hkk O.g.symm)
      (fun k j => tokold c2 k j rfl rfl rfl rfl) G.toktok G.tokbox
end
def isKey:Nat→Value→Bool
 | 0,.int .i64 _=>true
 | 1,.agg a=>match a.toList with
  | [.int .i64 _,.int .i64 _]=>true
  | _=>false
 | 2,.agg a=>match a.toList with
  | [.int .i64 _,.int .i64 _,.int .i64 _,.int .i64 _,.string _]=>true
  | _=>false
 | _,_=>false
def keyEq:Nat→Value→Value→Bool
 | 0,.int _ a,.int _ b=>a == b
 | 1,.agg a,.agg b=>match a.toList,b.toList with
  | [.int _ x,.int _ y],[.int _ z,.int _ u]=>x == z && y == u
  | _,_=>false
 | 2,.agg a,.agg b=>match a.toList,b.toList with
  | [.int _ x1,.int _ x2,.int _ x3,.int _ x4,.string s],[.int _ y1,.int _ y2,.int _ y3,.int _ y4,.string r]=>(x1 == y1 && (x2 == y2 && ((x3 == y3 && x4 == y4) && s.data.toList == r.data.toList)))
  | _,_=>false
 | _,_,_=>false
def unitB:Value→Bool
 | .agg a=>a.size == 0
 | _=>false
def valOk (kd:Nat) (v:Value):Bool:=match kd with
 | 2=>unitB v
 | _=>v.oneCell'
theorem valOk_ne {kd:Nat} (h:kd≠2) (v:Value):valOk kd v=v.oneCell':=by
 unfold valOk
 split
 ·exact absurd rfl h
 ·rfl
def fndE (kd:Nat) (k:Value):List MapEntry→Nat→Option (Nat × Value)
 | [],_=>none
 | e::es,i=>if keyEq kd k e.key then some (i,e.val) else fndE kd k es (i + 1)
structure MpTy (P:Program) (t:TypeId) (kd:Nat) (z:Value):Prop where
 zc:valOk kd z=true
 ty:∃ kt et,P.underlying t=some (.map kt et)∧(∀ w,(zeroValue et).run P w = .ok z w)∧
  ∀ k,isKey kd k=true→(∀ b w,(Instr.checkKey b 10000 kt k).run P w = .ok () w)∧
   ∀ es:List MapEntry,(∀ e ∈ es,isKey kd e.key=true)→∀ w,(Instr.findKey kt k es).run P w = .ok (fndE kd k es 0) w
structure TyI where
 size:Nat
 agg:Bool
 zero:List Value
 fields:List (Nat × TypeId)
 elem:Option TypeId
 ik:Option IntKind
 isb:Bool
 eq2:Bool
 iss:Bool
 ifc:Bool:=false
 np:Bool:=false
 emp:Bool:=false
 ptr:Bool:=false
 mp:Option (Nat × Value):=none
 eq3:Bool:=false
def npD:TypeDesc→Bool
 | .interface _=>false
 | _=>true
def isAggD:TypeDesc→Bool
 | .struct _ | .array _ _=>true
 | _=>false
def isIf (P:Program) (t:TypeId):Prop:=∃ ms,P.underlying t=some (.interface ms)
structure TyOk (P:Program) (t:TypeId) (i:TyI):Prop where
 inf:∃ q z d,P.info? t=some q∧q.size=i.size∧q.zero=some z∧z.cells.toList=i.zero∧z.cells.size=i.size∧q.bytes≤32768∧P.underlying t=some d∧isAggD d=i.agg
 flds:i.fields≠[]→∃ fs,P.underlying t=some (.struct fs)∧fs.toList.map (fun f=>(f.offset,f.type))=i.fields
 el:∀ e,i.elem=some e→P.underlying t=some (.slice e)
 ik:∀ k,i.ik=some k→P.underlying t=some (.int k)
 bl:i.isb=true→P.underlying t=some .bool
 ss:i.iss=true→P.underlying t=some .string
 fc:i.ifc=true→isIf P t
 bz:i.size≠0→∀ q,P.info? t=some q→q.bytes≠0
 np:i.np=true→∃ d,P.underlying t=some d∧npD d=true
 em:i.emp=true→P.underlying t=some (.struct #[])∧i.size=0
 pr:i.ptr=true→∃ e,P.underlying t=some (.pointer e)
 mpk:∀ kd z,i.mp=some (kd,z)→MpTy P t kd z
 e2:i.eq2=true→(∀ (w:World) (x y:Operand) (a b c d:Int),(eqGuard .eql t x y (.agg #[.int .i64 a,.int .i64 b]) (.agg #[.int .i64 c,.int .i64 d])).run P w = .ok () w∧(eqGuard .neq t x y (.agg #[.int .i64 a,.int .i64 b]) (.agg #[.int .i64 c,.int .i64 d])).run P w = .ok () w∧
  (binOp .eql t (.agg #[.int .i64 a,.int .i64 b]) (.agg #[.int .i64 c,.int .i64 d])).run P w = .ok (.bool (a == c && b == d)) w∧(binOp .neq t (.agg #[.int .i64 a,.int .i64 b]) (.agg #[.int .i64 c,.int .i64 d])).run P w = .ok (.bool (!(a == c && b == d))) w)
 e3:i.eq3=true→(∀ (w:World) (x y:Operand) (a b c d e f:Int),(eqGuard .eql t x y (.agg #[.int .i64 a,.int .i64 b,.int .i64 c]) (.agg #[.int .i64 d,.int .i64 e,.int .i64 f])).run P w = .ok () w∧(eqGuard .neq t x y (.agg #[.int .i64 a,.int .i64 b,.int .i64 c]) (.agg #[.int .i64 d,.int .i64 e,.int .i64 f])).run P w = .ok () w∧
  (binOp .eql t (.agg #[.int .i64 a,.int .i64 b,.int .i64 c]) (.agg #[.int .i64 d,.int .i64 e,.int .i64 f])).run P w = .ok (.bool ((a == d && b == e) && c == f)) w∧(binOp .neq t (.agg #[.int .i64 a,.int .i64 b,.int .i64 c]) (.agg #[.int .i64 d,.int .i64 e,.int .i64 f])).run P w = .ok (.bool (!((a == d && b == e) && c == f))) w)
def tyk (t:TypeId):List (TypeId × TyI)→Option TyI
 | []=>none
 | (u,i)::l=>if t=u then some i else tyk t l
def TysOk (P:Program) (T:List (TypeId × TyI)):Prop:=∀ p ∈ T,TyOk P p.1 p.2
theorem TysOk.get {P:Program} {T:List (TypeId × TyI)} (h:TysOk P T) {t:TypeId} {i:TyI} (ht:tyk t T=some i):TyOk P t i:=by
 induction T with
 | nil=>simp [tyk] at ht
 | cons p T ih =>
  obtain ⟨u,k⟩:=p
  simp only [tyk] at ht
  split at ht
  ·rename_i e;subst e
   obtain rfl:k=i:=by simpa using ht
   exact h (t,k) (by simp)
  ·exact ih (fun q hq=>h q (by simp [hq])) ht
def Yields (E:En) (o:Oper) (st':St) (a:Act) (w:World):Prop :=
 ∃ v w',(execOp a.eval o).run E.P w = .ok (.value v) w'∧R E st' (a.put o.dst v) w'
theorem Yields.wp {E:En} {o:Oper} {st':St} {a:Act} {w:World} (h:Yields E o st' a w) {next:Act→World→Prop} {Q:Exit→Act→World→Prop} (hn:∀ a' w',R E st' a' w'→next a' w'):o.wp E.P a w next Q:=by
 obtain ⟨v,w',h1,h2⟩:=h
 unfold Oper.wp
 rw [h1]
 exact hn _ _ h2
def AV.leaves:AV→Option (List AV)
 | .v x=>some [.v x]
 | .nl=>some [.nl]
 | .sl t els=>some [.sl t els]
 | .agg ls=>some ls
 | .cl f b ls=>some [.cl f b ls]
 | .loc d off=>some [.loc d off]
 | .xs d off n cap sz=>some [.xs d off n cap sz]
 | .el ls=>some [.el ls]
 | .rd=>some [.rd]
 | .dv x=>some [.dv x]
 | .mr d=>some [.mr d]
 | .tup _ | .junk | .mb _=>none
theorem cells_one {v:Value} (h:v.oneCell'=true):v.cells = #[v]:=by cases v<;>simp_all [Value.oneCell',Value.cells]
theorem Rd.leaves {c:Gh} {x:AV} {v:Value} (h:Rd c x v) {ls:List AV} (hl:x.leaves=some ls):v.cells.size=ls.length∧∀ (j:Nat) (y:AV),ls[j]? = some y→Rd c y (v.cells.getD j undef):=by
 have one:∀ {x:AV} {v:Value},Rd c x v→v.oneCell'=true→v.cells.size=[x].length∧∀ (j:Nat) (y:AV),[x][j]? = some y→Rd c y (v.cells.getD j undef):=fun h h1=>by
  rw [cells_one h1]
  refine ⟨rfl,fun j y hy=>?_⟩
  match j,hy with
  | 0,hy=>obtain rfl:=Option.some.inj hy;exact h
 cases h with
 | v x h=>obtain rfl:=Option.some.inj hl;exact one (.v _ h) h
 | junk=>cases hl
 | nl=>obtain rfl:=Option.some.inj hl;exact one .nl rfl
 | rd=>obtain rfl:=Option.some.inj hl;exact one .rd rfl
 | dv x v h=>obtain rfl:=Option.some.inj hl;exact one (.dv x v h) h.one
 | loc d off hb=>obtain rfl:=Option.some.inj hl;exact one (.loc d off hb) rfl
 | mr1 d hb=>obtain rfl:=Option.some.inj hl;exact one (.mr1 d hb) rfl
 | mr2 d hb=>obtain rfl:=Option.some.inj hl;exact one (.mr2 d hb) rfl
 | mb=>cases hl
 | xs d off n cap sz hc hb=>obtain rfl:=Option.some.inj hl;exact one (.xs d off n cap sz hc hb) rfl
 | sl t els v h ht=>obtain rfl:=Option.some.inj hl;exact one (.sl t els v h ht) h.one
 | agg ls cs hn hh=>obtain rfl:=Option.some.inj hl;exact ⟨hn,hh⟩
 | tup=>cases hl
 | cl1 f ls cs hn hh=>obtain rfl:=Option.some.inj hl;exact one (.cl1 f ls cs hn hh) rfl
 | cl2 f ls cs hn hh=>obtain rfl:=Option.some.inj hl;exact one (.cl2 f ls cs hn hh) rfl
 | el ls b off f hc hh=>obtain rfl:=Option.some.inj hl;exact one (.el ls b off f hc hh) rfl
theorem leaves_one {c:Gh} {x:AV} {v:Value} (h:Rd c x v):(∀ ls,x = .agg ls→False)→x.leaves.isSome=true→v.oneCell'=true:=by
 intro h1 h2
 cases h with
 | v x h=>exact h
 | junk=>cases h2
 | nl=>rfl
 | rd=>rfl
 | dv x v h=>exact h.one
 | loc d off=>rfl
 | mr1=>rfl
 | mr2=>rfl
 | mb=>cases h2
 | xs=>rfl
 | sl t els v h ht=>exact h.one
 | agg ls cs hn hh=>exact absurd rfl (h1 ls)
 | tup=>cases h2
 | cl1=>rfl
 | cl2=>rfl
 | el ls b off f hc hh=>rfl
def newbox (st:St) (d:Nat) (ls:List AV):St :=
 St.put { (st.stripL d) with m:=(d,AV.stripLAll d ls)::(st.stripL d).m } (some d) (.loc d 0)
section
variable {E:En} {st:St} {a:Act} {w:World} {o:Oper}
theorem R.get (h:R E st a w) (x:Operand):∃ c,c.w=w∧Good E st.m st.rn c∧(∀ x,Rd c (lk x st.σ) (a.tmps.getD x undef))∧a.tmps.size=st.nt∧a.defers=[]∧Rd c (st.ev x) (a.eval x):=by
 obtain ⟨c,h1,h2,h3,h4,h5⟩:=h
 exact ⟨c,h1,h2,h3,h4,h5,R.ev h3 x⟩
theorem op_move (h:R E st a w) (x:Operand) (ho:o.op = .move x∨o.op = .assign x):Yields E o (st.put o.dst (st.ev x)) a w:=by
 obtain ⟨c,h1,h2,h3,h4,h5,h6⟩:=h.get x
 refine ⟨a.eval x,w,?_,R.put h1 h2 h3 h4 h5 h6⟩
 unfold execOp
 rcases ho with ho | ho<;>rw [ho]<;>rfl
theorem op_pick (h:R E st a w) (x y z:Operand) (ho:o.op = .pick x y z) {t:Bool} (hx:st.ev x = .v (.bool t)):Yields E o (st.put o.dst (if t then st.ev y else st.ev z)) a w:=by
 obtain ⟨c,h1,h2,h3,h4,h5,h6⟩:=h.get x
 have hv:a.eval x = .bool t:=by
  rw [hx] at h6
  generalize a.eval x=u at h6
  cases h6;rfl
 refine ⟨if t then a.eval y else a.eval z,w,?_,R.put h1 h2 h3 h4 h5 (by cases t<;>exact R.ev h3 _)⟩
 unfold execOp;rw [ho];simp [asBool,hv]
theorem op_alloc (h:R E st a w) (d:Nat) (hdl:d < 920) (hd:o.dst=some d) (t:TypeId) (ho:o.op = .alloc t) {i:TyI} (ht:TyOk E.P t i):Yields E o (newbox st d (i.zero.map leafOf)) a w:=by
 obtain ⟨c,h1,h2,h3,h4,h5⟩:=h
 obtain ⟨q,z,dd,e1,e2,e3,e4,e5,_⟩:=ht.inf
 refine ⟨.pointer (some ⟨w.heap.size,0,none⟩),w.alloc (.cells z.cells t),?_,?_⟩
 ·unfold execOp;rw [ho];simp [Instr.alloc,zeroValue,typeInfo,e1,e3,newVar,newRow]
 ·rw [hd]
  refine R.newbox h1 h2 h3 h4 h5 d hdl (i.zero.map leafOf) z.cells t (by rw [← e4];simp) fun j x hx=>?_
  rw [← e4] at hx
  simp only [List.getElem?_map,Option.map_eq_some_iff,Array.getElem?_toList] at hx
  obtain ⟨u,hu,rfl⟩:=hx
  rw [Array.getD_eq_getD_getElem?,hu];exact Rd.leafOf c u
theorem op_box (h:R E st a w) (d:Nat) (hdl:d < 920) (hd:o.dst=some d) (t:TypeId) (x:Operand) (ho:o.op = .box t x) {ls:List AV} (hl:(st.ev x).leaves=some ls):Yields E o (newbox st d ls) a w:=by
 obtain ⟨c,h1,h2,h3,h4,h5,h6⟩:=h.get x
 obtain ⟨l1,l2⟩:=h6.leaves hl
 refine ⟨.pointer (some ⟨w.heap.size,0,none⟩),w.alloc (.cells (a.eval x).cells t),?_,?_⟩
 ·unfold execOp;rw [ho];simp [Instr.box,newVar,newRow]
 ·rw [hd];exact R.newbox h1 h2 h3 h4 h5 d hdl ls _ t l1 l2
theorem sizeOf_ok {P:Program} {t:TypeId} {i:TyI} (ht:TyOk P t i) (w:World):(sizeOf t).run P w = .ok i.size w:=by
 obtain ⟨q,z,dd,e1,e2,_⟩:=ht.inf
 simp [sizeOf,typeInfo,e1,e2]
theorem isAgg_ok {P:Program} {t:TypeId} {i:TyI} (ht:TyOk P t i) (w:World):(isAgg t).run P w = .ok i.agg w:=by
 obtain ⟨q,z,dd,e1,e2,e3,e4,e5,e6,e7,e8⟩:=ht.inf
 unfold isAgg
 simp only [Sem.run_bind,run_underlying e7,Result.andThen_ok]
 cases dd<;>simp [isAggD] at e8<;>simp [← e8]
theorem run_loadVar_cells {P:Program} {t:TypeId} {i:TyI} (ht:TyOk P t i) (w:World) (b off:Nat) (f:Nat→Value) (hs:0 < i.size) (hc:∀ k,k < i.size→w.cell? ⟨b,off + k,none⟩=some (f k)) :
  (loadVar t ⟨b,off,none⟩).run P w = .ok (if i.agg then .agg ((List.range i.size).map f).toArray else f 0) w:=by
 unfold loadVar
 simp only [Sem.run_bind,isAgg_ok ht,Result.andThen_ok]
 by_cases hg:i.agg=true
 ·simp only [hg,if_true]
  have:=run_loadCells_list (P:=P) (w:=w) ⟨b,off,none⟩ ((List.range i.size).map f) (fun j v hv=>by
   rw [add_none]
   simp only [List.getElem?_map,Option.map_eq_some_iff] at hv
   obtain ⟨k,hk,rfl⟩:=hv
   obtain ⟨q1,rfl⟩:=List.getElem?_eq_some_iff.1 hk
   simp only [List.length_range] at q1
   simpa using hc _ q1)
  simp only [List.length_map,List.length_range] at this
  simp only [Sem.run_bind,sizeOf_ok ht,Result.andThen_ok,this,Sem.run_pure]
 ·simp only [hg,if_false,Bool.false_eq_true]
  rw [run_load]
  have:=hc 0 hs
  rw [Nat.add_zero] at this
  simp [this]
def DV.toAV:DV→AV
 | .v x=>.v x
 | .sl els=>.sl none els
 | .ptr ls=>.el ls
 | .ifc t x=>.dv (.ifc t x)
 | .fn f c=>.dv (.fn f c)
 | .mp t=>.dv (.mp t)
theorem RdD.toAV {c:Gh} {x:DV} {v:Value} (h:RdD c.w c.S x v):Rd c x.toAV v:=by
 cases x with
 | v x=>cases h;exact .v _ ‹_›
 | sl els=>exact .sl none els v h trivial
 | ptr ls =>
  cases h with
  | ptr ls b off f hc hh=>exact .el ls b off f hc hh
 | ifc t x=>exact .dv _ v h
 | fn f c=>exact .dv _ v h
 | mp t=>exact .dv _ v h
def ldL (i:TyI) (ls:List AV):Option AV :=
 if i.agg then (if i.size≤ls.length then some (.agg (ls.take i.size)) else none) else ls.head?
theorem ldL_ok {c:Gh} {i:TyI} {ls:List AV} {x:AV} (h:ldL i ls=some x) (hz:i.agg=false→i.size=1) (f:Nat→Value) (hr:∀ (j:Nat) (y:AV),ls[j]? = some y→Rd c y (f j)) :
  i.size≤ls.length∧Rd c x (if i.agg then .agg ((List.range i.size).map f).toArray else f 0):=by
 unfold ldL at h
 split at h
 ·rename_i hg
  split at h
  ·rename_i hl
   obtain rfl:=Option.some.inj h
   refine ⟨hl,?_⟩
   rw [if_pos hg]
   refine .agg _ _ (by simp;omega) fun j y hy=>?_
   rw [List.getElem?_take] at hy
   split at hy
   ·rename_i hj
    have:((List.range i.size).map f).toArray.getD j undef=f j:=by simp [Array.getD_eq_getD_getElem?,hj]
    rw [this];exact hr j y hy
   ·cases hy
  ·cases h
 ·rename_i hg
  have hg':i.agg=false:=by simpa using hg
  cases ls with
  | nil=>cases h
  | cons y l =>
   obtain rfl:=Option.some.inj h
   refine ⟨by rw [hz hg'];simp,?_⟩
   rw [if_neg hg];exact hr 0 y rfl
theorem op_load_box (h:R E st a w) (t:TypeId) (x:Operand) (ho:o.op = .load t x) {i:TyI} (ht:TyOk E.P t i) (hz:i.agg=false→i.size=1) (hpos:0 < i.size) {d off:Nat} (hx:st.ev x = .loc d off) {ls:List AV} (hl:lkm d st.m=some ls)
  {r:AV} (hr:ldL i (ls.drop off)=some r):Yields E o (st.put o.dst r) a w:=by
 obtain ⟨c,h1,h2,h3,h4,h5,h6⟩:=h.get x
 rw [hx] at h6
 obtain ⟨b,hb⟩:∃ b,c.β d=b:=⟨_,rfl⟩
 have hv:a.eval x = .pointer (some ⟨b,off,none⟩):=by generalize a.eval x=u at h6;cases h6;rw [hb]
 obtain ⟨cs,T,b1,b2,b3,b4,b5⟩:=(h2.box d ls hl).cells h6.loc0
 rw [hb,h1] at b2
 obtain ⟨q1,q2⟩:=ldL_ok (c:=c) hr hz (fun j=>cs.getD (off + j) undef) (fun j y hy=>b4 (off + j) y (by rw [List.getElem?_drop] at hy;exact hy))
 refine ⟨_,w,?_,R.put h1 h2 h3 h4 h5 q2⟩
 have:=run_loadVar_cells ht w b off (fun j=>cs.getD (off + j) undef) hpos (fun k hk=>by
  rw [cell_of_row w b _ cs T (0,0) b2,Array.getD_eq_getD_getElem?]
  have:off + k < cs.size:=by rw [b3];simp only [List.length_drop] at q1;omega
  simp [this])
 unfold execOp;rw [ho];simp [Instr.loadAt,Instr.sureAddr,hv,this]
theorem op_load_el (h:R E st a w) (t:TypeId) (x:Operand) (ho:o.op = .load t x) {i:TyI} (ht:TyOk E.P t i) (hz:i.agg=false→i.size=1) (hpos:0 < i.size) {ls:List DV} (hx:st.ev x = .el ls)
  {r:AV} (hr:ldL i (ls.map DV.toAV)=some r):Yields E o (st.put o.dst r) a w:=by
 obtain ⟨c,h1,h2,h3,h4,h5,h6⟩:=h.get x
 rw [hx] at h6
 obtain ⟨b,off,f,hv,hc,hh⟩:∃ b off,∃ f:Nat→Value,a.eval x = .pointer (some ⟨b,off,none⟩)∧(∀ k,k < ls.length→c.S b (off + k)∧c.w.cell? ⟨b,off + k,none⟩=some (f k))∧∀ (j:Nat) (x:DV),ls[j]? = some x→RdD c.w c.S x (f j):=by
  generalize a.eval x=u at h6
  cases h6 with
  | el ls b off f hc hh=>exact ⟨b,off,f,rfl,hc,hh⟩
 obtain ⟨q1,q2⟩:=ldL_ok (c:=c) hr hz f (fun j y hy=>by
  simp only [List.getElem?_map,Option.map_eq_some_iff] at hy
  obtain ⟨u,hu,rfl⟩:=hy
  exact (hh j u hu).toAV)
 refine ⟨_,w,?_,R.put h1 h2 h3 h4 h5 q2⟩
 have:=run_loadVar_cells ht w b off f hpos (fun k hk=>by
  simp only [List.length_map] at q1
  rw [← h1];exact (hc k (by omega)).2)
 unfold execOp;rw [ho];simp [Instr.loadAt,Instr.sureAddr,hv,this]
def repm (d:Nat) (ls:List AV):List (Nat × List AV)→List (Nat × List AV)
 | []=>[]
 | (y,v)::l=>if d=y then (y,ls)::l else (y,v)::repm d ls l
theorem lkm_repm (d k:Nat) (ls l0:List AV):∀ m:List (Nat × List AV),lkm d m=some l0→lkm k (repm d ls m)=lkm k ((d,ls)::m)
 | [],h=>by simp [lkm] at h
 | (y,v)::m,h=>by
  simp only [lkm] at h
  by_cases e:d=y
  ·subst e
   simp only [repm,if_true,lkm]
   split<;>rfl
  ·rw [if_neg e] at h
   simp only [repm,if_neg e,lkm]
   by_cases e':k=y
   ·rw [if_pos e',if_neg (fun h'=>e (h'.symm.trans e')),if_pos e']
   ·rw [if_neg e',lkm_repm d k ls l0 m h]
    simp only [lkm,if_neg e']
theorem Good.congr {E : En} {m m' : List (Nat × List AV)} {rn : Nat} {c : Gh} (G : Good E m rn c) (h : ∀ k, lkm k m' = lkm k m) : Good E m' rn c :=
  { bl := G.bl, cg := G.cg, fr := G.fr, lx := G.lx, sx := G.sx, s1 := G.s1, sS := G.sS, sg := G.sg, box := fun d ls hl => G.box d ls (by rw [← h]; exact hl), boxinj := fun d d' l l' h1 h2 => G.boxinj d d' l l' (by rw [← h]; exact h1) (by rw [← h]; exact h2),
    tok := G.tok, toktok := G.toktok, tokbox := fun d j b k ls h1 h2 => G.tokbox d j b k ls h1 (by rw [← h]; exact h2), rk := G.rk }

theorem op_store (h : R E st a w) (t : TypeId) (x y : Operand) (ho : o.op = .store t x y) (hdst : o.dst = none) {i : TyI} (ht : TyOk E.P t i) {d off : Nat} (hx : st.ev x = .loc d off) {ls xs : List AV} (hl : lkm d st.m = some ls)
    (hy : (st.ev y).leaves = some xs) (hn : xs.length = i.size) (hfit : off + xs.length ≤ ls.length) (hleaf : ∀ z ∈ xs, (∀ l, z ≠ .agg l) ∧ z.leaves.isSome = true) :
    ∃ w', (execOp a.eval o).run E.P w = .ok .skip w' ∧ R E { st with m := repm d (setL ls off xs) st.m } (a.put o.dst undef) w' := by
  obtain ⟨c, h1, h2, h3, h4, h5, h6⟩ := h.get x
  rw [hx] at h6
  have hv : a.eval x = .pointer (some ⟨c.β d, off, none⟩) := by generalize a.eval x = u at h6; cases h6; rfl
  have hyr := R.ev h3 y
  obtain ⟨l1, l2⟩ := hyr.leaves hy
  obtain ⟨cs, T, b1, b2, b3, b4, b5⟩ := (h2.box d ls hl).cells h6.loc0
  rw [h1] at b2
  have hone : ∀ u ∈ (a.eval y).cells.toList, u.oneCell' = true := fun u hu => by
    obtain ⟨j, hj, rfl⟩ := List.getElem_of_mem hu
    have hj' : j < xs.length := by simpa [l1] using hj
    have hr := l2 j xs[j] (List.getElem?_eq_getElem hj')
    have e : (a.eval y).cells.getD j undef = (a.eval y).cells.toList[j] := by
      have : j < (a.eval y).cells.size := by omega
      simp [Array.getD_eq_getD_getElem?, this]
    rw [e] at hr
    obtain ⟨z1, z2⟩ := hleaf xs[j] (List.getElem_mem _)
    exact leaves_one hr (fun l e => z1 l e) z2
  obtain ⟨w', r1, r2, r3, r4, r5, r6, r7⟩ := run_storeCells_box E.P (c.β d) T (a.eval y).cells.toList off 0 cs w b2 (by simp; omega) hone
  refine ⟨w', ?_, ?_⟩
  · unfold execOp; rw [ho]
    simp only [Instr.storeAt, Instr.sureAddr, hv, storeVar]
    have : (a.eval y).cells.size = i.size := by omega
    simp [sizeOf_ok ht, this, r1]
  · obtain ⟨c', e1, e2, e3, e4, e5⟩ := R.setbox h1 h2 h3 h4 h5 (d := d) (off := off) (ls := ls) (xs := xs) (vs := (a.eval y).cells.toList) hl (by simpa using l1.symm) (fun j z v hz hv' => by
        have := l2 j z hz
        simp only [Array.getElem?_toList] at hv'
        rwa [Array.getD_eq_getD_getElem?, hv'] at this) b2 (by simpa using r2) r3 r4 r5 r6 r7
    rw [hdst]
    exact ⟨c', e1, e2.congr (fun k => lkm_repm d k _ ls _ hl), e3, e4, e5⟩
end
def binC (op:BinOp) (bt:Bool) (x y:Value):Prop :=
 match op,x,y with
 | .add,.int k a,.int k' b=>k=k'∧(k = .i64→-9223372036854775808≤a + b∧a + b≤9223372036854775807)
 | .sub,.int k a,.int k' b=>k=k'∧(k = .i64→-9223372036854775808≤a - b∧a - b≤9223372036854775807)
 | .mul,.int k a,.int k' b=>k=k'∧(k = .i64→-9223372036854775808≤a * b∧a * b≤9223372036854775807)
 | .quo,.int k a,.int k' b=>k=k'∧b≠0∧(k = .i64→-9223372036854775808≤a.tdiv b∧a.tdiv b≤9223372036854775807)
 | .rem,.int k _,.int k' b=>k=k'∧b≠0
 | .eql,.int k _,.int k' _=>k=k'
 | .neq,.int k _,.int k' _=>k=k'
 | .lss,.int k _,.int k' _=>k=k'
 | .leq,.int k _,.int k' _=>k=k'
 | .gtr,.int k _,.int k' _=>k=k'
 | .geq,.int k _,.int k' _=>k=k'
 | .eql,.bool _,.bool _=>bt=true
 | .neq,.bool _,.bool _=>bt=true
 | .eql,.string _,.string _=>True
 | .neq,.string _,.string _=>True
 | .add,.string a,.string b=>a.size + b.size≤9223372036854775807
 | .shl,.int _ _,.int _ b=>0≤b
 | .shr,.int _ _,.int _ b=>0≤b
 | .and,.int k _,.int k' _=>k=k'
 | .or,.int k _,.int k' _=>k=k'
 | .xor,.int k _,.int k' _=>k=k'
 | _,_,_=>False
def iAnd (k:IntKind) (a b:Int):Int:=k.wrap (BitVec.ofInt k.bits a &&& BitVec.ofInt k.bits b).toNat
def iOr (k:IntKind) (a b:Int):Int:=k.wrap (BitVec.ofInt k.bits a ||| BitVec.ofInt k.bits b).toNat
def binR (op:BinOp) (x y:Value):Value :=
 match op,x,y with
 | .add,.int k a,.int _ b=>.int k (if k = .i64 then a + b else k.wrap (a + b))
 | .sub,.int k a,.int _ b=>.int k (if k = .i64 then a - b else k.wrap (a - b))
 | .mul,.int k a,.int _ b=>.int k (if k = .i64 then a * b else k.wrap (a * b))
 | .quo,.int k a,.int _ b=>.int k (if k = .i64 then a.tdiv b else k.wrap (a.tdiv b))
 | .rem,.int k a,.int _ b=>.int k (a.tmod b)
 | .eql,.int _ a,.int _ b=>.bool (decide (a=b))
 | .neq,.int _ a,.int _ b=>.bool (!decide (a=b))
 | .lss,.int _ a,.int _ b=>.bool (decide (a < b))
 | .leq,.int _ a,.int _ b=>.bool (decide (a≤b))
 | .gtr,.int _ a,.int _ b=>.bool (decide (b < a))
 | .geq,.int _ a,.int _ b=>.bool (decide (b≤a))
 | .eql,.bool a,.bool b=>.bool (a == b)
 | .neq,.bool a,.bool b=>.bool (!(a == b))
 | .eql,.string a,.string b=>.bool (a.toList == b.toList)
 | .neq,.string a,.string b=>.bool (!(a.toList == b.toList))
 | .add,.string a,.string b=>.string (a++b)
 | .shl,.int k a,.int _ b=>.int k (k.wrap (a * 2 ^ (min b.toNat k.bits)))
 | .shr,.int k a,.int _ b=>.int k (a.fdiv (2 ^ (min b.toNat k.bits)))
 | .and,.int k a,.int _ b=>.int k (iAnd k a b)
 | .or,.int k a,.int _ b=>.int k (iOr k a b)
 | .xor,.int k a,.int _ b=>.int k (k.wrap (BitVec.ofInt k.bits a ^^^ BitVec.ofInt k.bits b).toNat)
 | _,x,_=>x
theorem wrap64_in (n:Int) (h : -9223372036854775808≤n∧n≤9223372036854775807):IntKind.i64.wrap n=n:=IntWalk.i64_in n h
theorem binV_run {P:Program} {op:BinOp} {t:TypeId} {bt:Bool} (hb:bt=true→P.underlying t=some .bool) {x y:Value} (h:binC op bt x y) (xo yo:Operand) (w:World) :
  ((do eqGuard op t xo yo x y;binOp op t x y:Sem Value).run P w) = .ok (binR op x y) w∧(binR op x y).oneCell'=true:=by
 unfold binC at h
 split at h
 all_goals try exact h.elim
 case h_1 k a k' b =>
  obtain ⟨rfl,h1⟩:=h
  refine ⟨?_,rfl⟩
  by_cases e:k = .i64
  ·subst e;simp [eqGuard_add,binOp_add,Op.intArith,binR,wrap64_in _ (h1 rfl)]
  ·simp [eqGuard_add,binOp_add,Op.intArith,binR,e]
 case h_2 k a k' b =>
  obtain ⟨rfl,h1⟩:=h
  refine ⟨?_,rfl⟩
  by_cases e:k = .i64
  ·subst e;simp [eqGuard_sub,binOp_sub,Op.intArith,binR,wrap64_in _ (h1 rfl)]
  ·simp [eqGuard_sub,binOp_sub,Op.intArith,binR,e]
 case h_3 k a k' b =>
  obtain ⟨rfl,h1⟩:=h
  refine ⟨?_,rfl⟩
  by_cases e:k = .i64
  ·subst e;simp [eqGuard_mul,binOp_mul,Op.intArith,binR,wrap64_in _ (h1 rfl)]
  ·simp [eqGuard_mul,binOp_mul,Op.intArith,binR,e]
 case h_4 k a k' b =>
  obtain ⟨rfl,h0,h1⟩:=h
  refine ⟨?_,rfl⟩
  by_cases e:k = .i64
  ·subst e;simp [eqGuard_quo,binOp_quo,Op.intDiv,h0,binR,wrap64_in _ (h1 rfl)]
  ·simp [eqGuard_quo,binOp_quo,Op.intDiv,h0,binR,e]
 case h_5 k a k' b=>obtain ⟨rfl,h0⟩:=h;exact ⟨by simp [eqGuard_rem,binOp_rem,Op.intDiv,h0,binR],rfl⟩
 case h_6 k a k' b =>
  subst h
  exact ⟨by simp [eqGuard_at_int,binOp_eql,binR,show (a == b)=decide (a=b) from by rw [Bool.eq_iff_iff];simp],rfl⟩
 case h_7 k a k' b =>
  subst h
  exact ⟨by simp [eqGuard_at_int,binOp_neq,binR,show (a != b) = !decide (a=b) from by rw [Bool.eq_iff_iff];simp],rfl⟩
 case h_8 k a k' b=>subst h;exact ⟨by simp [eqGuard_lss,binOp_lss,binR],rfl⟩
 case h_9 k a k' b=>subst h;exact ⟨by simp [eqGuard_leq,binOp_leq,binR],rfl⟩
 case h_10 k a k' b=>subst h;exact ⟨by simp [eqGuard_gtr,binOp_gtr,binR],rfl⟩
 case h_11 k a k' b=>subst h;exact ⟨by simp [eqGuard_geq,binOp_geq,binR],rfl⟩
 case h_12 a b=>exact ⟨by simp [eqGuard_at_bool,run_eql_bool w t a b (hb h),binR],rfl⟩
 case h_13 a b=>exact ⟨by simp [eqGuard_at_bool,run_neq_bool w t a b (hb h),binR],rfl⟩
 case h_14 a b=>exact ⟨by simp [eqGuard_at_string,binOp_string_eql,binR],rfl⟩
 case h_15 a b=>exact ⟨by simp [eqGuard_at_string,binOp_string_neq,binR],rfl⟩
 case h_16 a b=>exact ⟨by simp [eqGuard_at_string,binOp_string_add,run_string_add_sum _ _ _ h,binR],rfl⟩
 case h_17 k a k' b=>exact ⟨by simp [eqGuard_shl,binOp_shl,Op.shift,show ¬ b < 0 by omega,binR],rfl⟩
 case h_18 k a k' b=>exact ⟨by simp [eqGuard_shr,binOp_shr,Op.shift,show ¬ b < 0 by omega,binR],rfl⟩
 case h_19 k a k' b=>subst h;exact ⟨by simp [eqGuard_and,binOp_and,Op.intBits,binR,iAnd],rfl⟩
 case h_20 k a k' b=>subst h;exact ⟨by simp [eqGuard_or,binOp_or,Op.intBits,binR,iOr],rfl⟩
 case h_21 k a k' b=>subst h;exact ⟨by simp [eqGuard_xor,binOp_xor,Op.intBits,binR],rfl⟩
section
variable {E:En} {st:St} {a:Act} {w:World} {o:Oper}
theorem op_bin (h:R E st a w) (op:BinOp) (t t':TypeId) (x y:Operand) (ho:o.op = .binOp op t x y t') {bt:Bool} (hb:bt=true→E.P.underlying t=some .bool) {u v:Value} (hx:st.ev x = .v u) (hy:st.ev y = .v v)
  (hk:binC op bt u v):Yields E o (st.put o.dst (.v (binR op u v))) a w:=by
 obtain ⟨c,h1,h2,h3,h4,h5,h6⟩:=h.get x
 have h7:=R.ev h3 y
 have e1:a.eval x=u:=by rw [hx] at h6;generalize a.eval x=z at h6;cases h6;rfl
 have e2:a.eval y=v:=by rw [hy] at h7;generalize a.eval y=z at h7;cases h7;rfl
 obtain ⟨r1,r2⟩:=binV_run hb hk x y w
 refine ⟨binR op u v,w,?_,R.put h1 h2 h3 h4 h5 (.v _ r2)⟩
 unfold execOp;rw [ho];simp only [e1,e2,Sem.run_bind] at r1 ⊢
 rw [r1];rfl
theorem agg2 {c:Gh} {v:Value} {x y:Value} (h:Rd c (.agg [.v x,.v y]) v):v = .agg #[x,y]:=by
 cases h with
 | agg ls cs hn hh =>
  have h0:Rd c (.v x) (cs.getD 0 undef):=hh 0 _ rfl
  have h1:Rd c (.v y) (cs.getD 1 undef):=hh 1 _ rfl
  have e0:cs.getD 0 undef=x:=by generalize cs.getD 0 undef=u at h0;cases h0;rfl
  have e1:cs.getD 1 undef=y:=by generalize cs.getD 1 undef=u at h1;cases h1;rfl
  congr 1
  apply Array.ext (by simpa using hn)
  intro i hi _
  simp only [List.length_cons,List.length_nil] at hn
  match i,hi with
  | 0,hi=>simpa [Array.getD_eq_getD_getElem?,hi] using e0
  | 1,hi=>simpa [Array.getD_eq_getD_getElem?,hi] using e1
  | n + 2,hi=>omega
theorem op_eq2 (h:R E st a w) (neg:Bool) (t t':TypeId) (x y:Operand) (ho:o.op = .binOp (if neg then .neq else .eql) t x y t') {i:TyI} (ht:TyOk E.P t i) (he:i.eq2=true) {p q r s:Int}
  (hx:st.ev x = .agg [.v (.int .i64 p),.v (.int .i64 q)]) (hy:st.ev y = .agg [.v (.int .i64 r),.v (.int .i64 s)]) :
  Yields E o (st.put o.dst (.v (.bool (if neg then !(p == r && q == s) else (p == r && q == s))))) a w:=by
 obtain ⟨c,h1,h2,h3,h4,h5,h6⟩:=h.get x
 have h7:=R.ev h3 y
 rw [hx] at h6
 rw [hy] at h7
 have e1:=agg2 h6
 have e2:=agg2 h7
 obtain ⟨f1,f2,f3,f4⟩:=ht.e2 he w x y p q r s
 refine ⟨_,w,?_,R.put h1 h2 h3 h4 h5 (.v _ rfl)⟩
 unfold execOp;rw [ho]
 cases neg
 ·simp [e1,e2,f1,f3]
 ·simp [e1,e2,f2,f4]
theorem agg3 {c:Gh} {v:Value} {p q r:Int} (h:Rd c (.agg [.v (.int .i64 p),.v (.int .i64 q),.v (.int .i64 r)]) v):v = .agg #[.int .i64 p,.int .i64 q,.int .i64 r]:=by
 cases h with
 | agg ls cs hn hh =>
  have e0:=hh 0 _ rfl
  have e1:=hh 1 _ rfl
  have e2:=hh 2 _ rfl
  obtain ⟨l⟩:=cs
  match l,hn with
  | [a,b,d],_ =>
   have h0:a = .int .i64 p:=by cases e0;rfl
   have h1:b = .int .i64 q:=by cases e1;rfl
   have h2:d = .int .i64 r:=by cases e2;rfl
   subst h0;subst h1;subst h2;rfl
theorem op_eq3 (h:R E st a w) (neg:Bool) (t t':TypeId) (x y:Operand) (ho:o.op = .binOp (if neg then .neq else .eql) t x y t') {i:TyI} (ht:TyOk E.P t i) (he:i.eq3=true) {p q u r s v:Int}
  (hx:st.ev x = .agg [.v (.int .i64 p),.v (.int .i64 q),.v (.int .i64 u)]) (hy:st.ev y = .agg [.v (.int .i64 r),.v (.int .i64 s),.v (.int .i64 v)]) :
  Yields E o (st.put o.dst (.v (.bool (if neg then !((p == r && q == s) && u == v) else ((p == r && q == s) && u == v))))) a w:=by
 obtain ⟨c,h1,h2,h3,h4,h5,h6⟩:=h.get x
 have h7:=R.ev h3 y
 rw [hx] at h6
 rw [hy] at h7
 have e1:=agg3 h6
 have e2:=agg3 h7
 obtain ⟨f1,f2,f3,f4⟩:=ht.e3 he w x y p q u r s v
 refine ⟨_,w,?_,R.put h1 h2 h3 h4 h5 (.v _ rfl)⟩
 unfold execOp;rw [ho]
 cases neg
 ·simp [e1,e2,f1,f3]
 ·simp [e1,e2,f2,f4]
theorem op_not (h:R E st a w) (t:TypeId) (x:Operand) (ho:o.op = .unOp .not t x) {b:Bool} (hx:st.ev x = .v (.bool b)):Yields E o (st.put o.dst (.v (.bool !b))) a w:=by
 obtain ⟨c,h1,h2,h3,h4,h5,h6⟩:=h.get x
 have e1:a.eval x = .bool b:=by rw [hx] at h6;generalize a.eval x=z at h6;cases h6;rfl
 refine ⟨_,w,?_,R.put h1 h2 h3 h4 h5 (.v (.bool !b) rfl)⟩
 unfold execOp;rw [ho];simp [Op.unary,e1]
theorem run_equalIn_nil {P:Program} (w:World) (n:Nat) (t:TypeId) (ht:isIf P t):(Op.equalIn (n + 1) t .nilIface .nilIface).run P w = .ok true w∧∀ d u,(Op.equalIn (n + 1) t (.iface d u) .nilIface).run P w = .ok false w:=by
 obtain ⟨ms,ht⟩:=ht
 constructor
 ·simp [Op.equalIn,run_underlying ht]
 ·intro d u;simp [Op.equalIn,run_underlying ht]
theorem op_nil (h:R E st a w) (op:BinOp) (t t':TypeId) (x:Operand) (ho:o.op = .binOp op t x (.const .nilIface) t') (ht:isIf E.P t) {b:Bool} (hx:(st.ev x = .v .nilIface∧b=true)∨(((∃ d u,st.ev x = .v (.iface d u))∨∃ d y,st.ev x = .dv (.ifc d y))∧b=false))
  {r:Bool} (hop:(op = .eql∧r=b)∨(op = .neq∧r = !b)):Yields E o (st.put o.dst (.v (.bool r))) a w:=by
 obtain ⟨c,h1,h2,h3,h4,h5,h6⟩:=h.get x
 obtain ⟨q1,q2⟩:=run_equalIn_nil w 9999 t ht
 have e2:a.eval (.const .nilIface) = .nilIface:=rfl
 refine ⟨_,w,?_,R.put h1 h2 h3 h4 h5 (.v (.bool r) rfl)⟩
 unfold execOp;rw [ho]
 have hx2:(st.ev x = .v .nilIface∧b=true)∨((∃ d u,a.eval x = .iface d u)∧b=false):=by
  rcases hx with hx | ⟨⟨d,u,hx⟩ | ⟨d,y,hx⟩,hb⟩
  ·exact .inl hx
  ·rw [hx] at h6;generalize a.eval x=z at h6 ⊢;cases h6;exact .inr ⟨⟨d,u,rfl⟩,hb⟩
  ·rw [hx] at h6;generalize a.eval x=z at h6 ⊢
   cases h6 with
   | dv _ _ h=>cases h with
    | ifc _ _ v h=>exact .inr ⟨⟨d,v,rfl⟩,hb⟩
 clear hx
 rcases hx2 with ⟨hx,rfl⟩ | ⟨⟨d,u,hx⟩,rfl⟩
 ·have e1:a.eval x = .nilIface:=by rw [hx] at h6;generalize a.eval x=z at h6;cases h6;rfl
  have q:(Op.equal t .nilIface .nilIface).run E.P w = .ok true w:=q1
  have b1:binOp .eql t .nilIface .nilIface=(do pure (.bool (← Op.equal t .nilIface .nilIface))):=rfl
  have b2:binOp .neq t .nilIface .nilIface=(do pure (.bool (!(← Op.equal t .nilIface .nilIface)))):=rfl
  rcases hop with ⟨rfl,rfl⟩ | ⟨rfl,rfl⟩
  ·simp only [e1,e2,eqGuard_nil_constR,b1,Sem.run_bind,Sem.run_pure,Result.andThen_ok,q]
  ·simp only [e1,e2,eqGuard_nil_constR,b2,Sem.run_bind,Sem.run_pure,Result.andThen_ok,q]
 ·have e1:a.eval x = .iface d u:=hx
  have q:(Op.equal t (.iface d u) .nilIface).run E.P w = .ok false w:=q2 d u
  have b1:binOp .eql t (.iface d u) .nilIface=(do pure (.bool (← Op.equal t (.iface d u) .nilIface))):=rfl
  have b2:binOp .neq t (.iface d u) .nilIface=(do pure (.bool (!(← Op.equal t (.iface d u) .nilIface)))):=rfl
  rcases hop with ⟨rfl,rfl⟩ | ⟨rfl,rfl⟩
  ·simp only [e1,e2,eqGuard_at_iface,b1,Sem.run_bind,Sem.run_pure,Result.andThen_ok,q]
  ·simp only [e1,e2,eqGuard_at_iface,b2,Sem.run_bind,Sem.run_pure,Result.andThen_ok,q]
theorem op_neg (h:R E st a w) (t:TypeId) (x:Operand) (ho:o.op = .unOp .neg t x) {n:Int} (hx:st.ev x = .v (.int .i64 n)) (hn : -9223372036854775807≤n∧n≤9223372036854775807):Yields E o (st.put o.dst (.v (.int .i64 (-n)))) a w:=by
 obtain ⟨c,h1,h2,h3,h4,h5,h6⟩:=h.get x
 have e1:a.eval x = .int .i64 n:=by rw [hx] at h6;generalize a.eval x=z at h6;cases h6;rfl
 refine ⟨_,w,?_,R.put h1 h2 h3 h4 h5 (.v (.int .i64 (-n)) rfl)⟩
 unfold execOp;rw [ho];simp [Op.unary,e1,Op.intArith,wrap64_in (-n) (by omega)]
theorem op_conv (h:R E st a w) (s t:TypeId) (x:Operand) (ho:o.op = .convert s t x) {i j:TyI} (hs:TyOk E.P s j) (ht:TyOk E.P t i) {k k':IntKind} (hk:i.ik=some k) {n:Int} (hx:st.ev x = .v (.int k' n)) :
  Yields E o (st.put o.dst (.v (.int k (k.wrap n)))) a w:=by
 obtain ⟨c,h1,h2,h3,h4,h5,h6⟩:=h.get x
 have e1:a.eval x = .int k' n:=by rw [hx] at h6;generalize a.eval x=z at h6;cases h6;rfl
 obtain ⟨q,z,d,_,_,_,_,_,_,hd,_⟩:=hs.inf
 refine ⟨_,w,?_,R.put h1 h2 h3 h4 h5 (.v (.int k (k.wrap n)) rfl)⟩
 unfold execOp;rw [ho];simp [convert,run_underlying hd,run_underlying (ht.ik k hk),e1,Conv.intToInt]
theorem op_nilCheck (h:R E st a w) (x:Operand) (ho:o.op = .nilCheck x) {y:AV} (hx:st.ev x=y) (hy:(∃ d off,y = .loc d off)∨(∃ ls,y = .el ls)∨y = .rd):Yields E o (st.put o.dst y) a w:=by
 obtain ⟨c,h1,h2,h3,h4,h5,h6⟩:=h.get x
 rw [hx] at h6
 have e1:∃ p,a.eval x = .pointer (some p):=by
  generalize a.eval x=z at h6
  rcases hy with ⟨d,off,rfl⟩ | ⟨ls,rfl⟩ | rfl<;>cases h6<;>exact ⟨_,rfl⟩
 obtain ⟨p,e1⟩:=e1
 refine ⟨.pointer (some p),w,?_,R.put h1 h2 h3 h4 h5 (by rw [e1] at h6;exact h6)⟩
 unfold execOp;rw [ho];simp [e1]
theorem fieldPlace_ok {P:Program} {t:TypeId} {i fi:TyI} (ht:TyOk P t i) {k off:Nat} {ft:TypeId} (hf:i.fields[k]? = some (off,ft)) (hft:TyOk P ft fi) (hpos:0 < fi.size) (b o:Nat) (w:World) :
  (Instr.fieldAt t (.pointer (some ⟨b,o,none⟩)) k).run P w = .ok (.pointer (some ⟨b,o + off,none⟩)) w:=by
 obtain ⟨fs,f1,f2⟩:=ht.flds (by intro e;rw [e] at hf;simp at hf)
 rw [← f2] at hf
 simp only [List.getElem?_map,Option.map_eq_some_iff,Array.getElem?_toList] at hf
 obtain ⟨f,hf,he⟩:=hf
 simp only [Prod.mk.injEq] at he
 obtain ⟨rfl,rfl⟩:=he
 have:fi.size≠0:=by omega
 simp [Instr.fieldAt,run_underlying f1,hf,Instr.sureAddr,fieldPlace,sizeOf_ok hft,this,add_none]
theorem op_fieldAddr (h:R E st a w) (t:TypeId) (x:Operand) (k:Nat) (ho:o.op = .fieldAddr t x k) {i fi:TyI} (ht:TyOk E.P t i) {off:Nat} {ft:TypeId} (hf:i.fields[k]? = some (off,ft)) (hft:TyOk E.P ft fi) (hpos:0 < fi.size) {d o':Nat} (hx:st.ev x = .loc d o') :
  Yields E o (st.put o.dst (.loc d (o' + off))) a w:=by
 obtain ⟨c,h1,h2,h3,h4,h5,h6⟩:=h.get x
 rw [hx] at h6
 have e1:a.eval x = .pointer (some ⟨c.β d,o',none⟩):=by generalize a.eval x=z at h6;cases h6;rfl
 refine ⟨_,w,?_,R.put h1 h2 h3 h4 h5 (.loc d (o' + off) h6.loc0)⟩
 unfold execOp;rw [ho];simp [e1,fieldPlace_ok ht hf hft hpos]
theorem op_fieldAddr_el (h:R E st a w) (t:TypeId) (x:Operand) (k:Nat) (ho:o.op = .fieldAddr t x k) {i fi:TyI} (ht:TyOk E.P t i) {off:Nat} {ft:TypeId} (hf:i.fields[k]? = some (off,ft)) (hft:TyOk E.P ft fi) (hpos:0 < fi.size) {ls:List DV} (hx:st.ev x = .el ls) :
  Yields E o (st.put o.dst (.el (ls.drop off))) a w:=by
 obtain ⟨c,h1,h2,h3,h4,h5,h6⟩:=h.get x
 rw [hx] at h6
 obtain ⟨b,ob,f,hv,hc,hh⟩:∃ b off,∃ f:Nat→Value,a.eval x = .pointer (some ⟨b,off,none⟩)∧(∀ k,k < ls.length→c.S b (off + k)∧c.w.cell? ⟨b,off + k,none⟩=some (f k))∧∀ (j:Nat) (x:DV),ls[j]? = some x→RdD c.w c.S x (f j):=by
  generalize a.eval x=u at h6
  cases h6 with
  | el ls b off f hc hh=>exact ⟨b,off,f,rfl,hc,hh⟩
 refine ⟨_,w,?_,R.put h1 h2 h3 h4 h5 (.el (ls.drop off) b (ob + off) (fun j=>f (off + j)) (fun k hk=>?_) (fun j y hy=>hh (off + j) y (by rw [List.getElem?_drop] at hy;exact hy)))⟩
 ·unfold execOp;rw [ho];simp [hv,fieldPlace_ok ht hf hft hpos]
 ·have:=hc (off + k) (by simp only [List.length_drop] at hk;omega)
  rwa [← Nat.add_assoc] at this
theorem op_field (h:R E st a w) (t:TypeId) (x:Operand) (k:Nat) (ho:o.op = .field t x k) {i fi:TyI} (ht:TyOk E.P t i) {off:Nat} {ft:TypeId} (hf:i.fields[k]? = some (off,ft)) (hft:TyOk E.P ft fi) (hz:fi.agg=false→fi.size=1) {ls:List AV} (hx:st.ev x = .agg ls)
  {r:AV} (hr:ldL fi (ls.drop off)=some r) (hpos:0 < fi.size):Yields E o (st.put o.dst r) a w:=by
 obtain ⟨c,h1,h2,h3,h4,h5,h6⟩:=h.get x
 rw [hx] at h6
 obtain ⟨cs,hv,hn,hh⟩:∃ cs:Array Value,a.eval x = .agg cs∧cs.size=ls.length∧∀ (j:Nat) (y:AV),ls[j]? = some y→Rd c y (cs.getD j undef):=by
  generalize a.eval x=u at h6
  cases h6 with
  | agg ls cs hn hh=>exact ⟨cs,rfl,hn,hh⟩
 obtain ⟨fs,f1,f2⟩:=ht.flds (by intro e;rw [e] at hf;simp at hf)
 rw [← f2] at hf
 simp only [List.getElem?_map,Option.map_eq_some_iff,Array.getElem?_toList] at hf
 obtain ⟨f,hf,he⟩:=hf
 simp only [Prod.mk.injEq] at he
 obtain ⟨rfl,rfl⟩:=he
 obtain ⟨q1,q2⟩:=ldL_ok (c:=c) hr hz (fun j=>cs.getD (f.offset + j) undef) (fun j y hy=>hh (f.offset + j) y (by rw [List.getElem?_drop] at hy;exact hy))
 simp only [List.length_drop] at q1
 refine ⟨_,w,?_,R.put h1 h2 h3 h4 h5 q2⟩
 unfold execOp;rw [ho]
 simp only [Instr.field,Sem.run_bind,run_underlying f1,Result.andThen_ok,hf,hv,asAgg,Sem.run_pure,part,isAgg_ok hft,Sem.run_ite]
 by_cases hg:fi.agg=true
 ·simp only [hg,if_true,sizeOf_ok hft,Result.andThen_ok]
  congr 2
  congr 1
  apply Array.ext'
  apply List.ext_getElem?
  intro j
  by_cases hj:j < fi.size
  ·have e1:f.offset + j < cs.size:=by omega
   simp [hj,e1,Array.getD_eq_getD_getElem?,List.getElem?_drop]
  ·simp only [Array.toList_extract,List.getElem?_map]
   rw [List.getElem?_eq_none (by simp;omega),List.getElem?_eq_none (by simp;omega)];rfl
 ·have hlt:f.offset < cs.size:=by omega
  simp [hg,hlt,Array.getD_eq_getD_getElem?]
end
def AV.els:AV→Option (List (List DV))
 | .sl _ els=>some els
 | .nl=>some []
 | _=>none
theorem Rd.els {c:Gh} {x:AV} {v:Value} (h:Rd c x v) {els:List (List DV)} (he:x.els=some els):RdD c.w c.S (.sl els) v:=by
 cases h with
 | sl t els v h ht=>obtain rfl:=Option.some.inj he;exact h
 | nl=>obtain rfl:=Option.some.inj he;exact .nil
 | _=>cases he
def DV.ofAV:AV→Option DV
 | .v x=>some (.v x)
 | .nl=>some (.sl [])
 | .sl _ els=>some (.sl els)
 | .el ls=>some (.ptr ls)
 | .dv x=>some x
 | _=>none
theorem Rd.ofAV {c:Gh} {x:AV} {v:Value} (h:Rd c x v) {y:DV} (hy:DV.ofAV x=some y):RdD c.w c.S y v:=by
 cases h with
 | v x h=>obtain rfl:=Option.some.inj hy;exact .v _ h
 | sl t els v h ht=>obtain rfl:=Option.some.inj hy;exact h
 | nl=>obtain rfl:=Option.some.inj hy;exact .nil
 | el ls b off f hc hh=>obtain rfl:=Option.some.inj hy;exact .ptr ls b off f hc hh
 | dv x v h=>obtain rfl:=Option.some.inj hy;exact h
 | _=>cases hy
def DV.ofAll:List AV→Option (List DV)
 | []=>some []
 | x::l=>match DV.ofAV x,DV.ofAll l with
  | some y,some r=>some (y::r)
  | _,_=>none
theorem ofAll_get:∀ {ls:List AV} {ys:List DV},DV.ofAll ls=some ys→ys.length=ls.length∧∀ (j:Nat) (y:DV),ys[j]? = some y→∃ x,ls[j]? = some x∧DV.ofAV x=some y
 | [],ys,h=>by obtain rfl:=Option.some.inj h;exact ⟨rfl,fun j y hy=>by simp at hy⟩
 | x::l,ys,h=>by
  simp only [DV.ofAll] at h
  cases hx:DV.ofAV x with
  | none=>simp [hx] at h
  | some y =>
   cases hr:DV.ofAll l with
   | none=>simp [hx,hr] at h
   | some r =>
    simp only [hx,hr] at h
    obtain rfl:=Option.some.inj h
    obtain ⟨i1,i2⟩:=ofAll_get hr
    refine ⟨by simp [i1],fun j z hz=>?_⟩
    match j,hz with
    | 0,hz=>obtain rfl:=Option.some.inj hz;exact ⟨x,rfl,hx⟩
    | j + 1,hz=>exact i2 j z (by simpa using hz)
section
variable {E:En} {st:St} {a:Act} {w:World} {o:Oper}
def bytesL:List (List DV)→Option (List Int)
 | []=>some []
 | [.v (.int .u8 n)]::l=>match bytesL l with
  | some r=>some (n::r)
  | none=>none
 | _=>none
theorem bytesL_get:∀ (els:List (List DV)) (xs:List Int),bytesL els=some xs→xs.length=els.length∧∀ i,i < els.length→els[i]? = some [.v (.int .u8 (xs.getD i 0))]
 | [],xs,h=>by
  obtain rfl:=Option.some.inj h
  exact ⟨rfl,fun i hi=>by simp at hi⟩
 | e::l,xs,h=>by
  unfold bytesL at h
  split at h
  ·cases ‹e::l=[]›
  ·rename_i n l' heq
   injection heq with h1 h2
   subst h1;subst h2
   split at h
   ·rename_i r hr
    obtain rfl:=Option.some.inj h
    obtain ⟨g1,g2⟩:=bytesL_get l r hr
    refine ⟨by simp [g1],fun i hi=>?_⟩
    match i,hi with
    | 0,_=>rfl
    | i + 1,hi=>simpa using g2 i (by simpa using hi)
   ·cases h
  ·cases h
theorem op_convBytes (h:R E st a w) (s t:TypeId) (x:Operand) (ho:o.op = .convert s t x) {i:TyI} (hs:TyOk E.P s i) {e:TypeId} (he:i.elem=some e) {ie:TyI} (hte:TyOk E.P e ie) (hk:ie.ik=some .u8) (ht:E.P.underlying t=some .string) {els:List (List DV)} (hx:(st.ev x).els=some els) {xs:List Int} (hb:bytesL els=some xs) :
  Yields E o (st.put o.dst (.v (.string (strOfNums xs)))) a w:=by
 obtain ⟨c,h1,h2,h3,h4,h5,h6⟩:=h.get x
 obtain ⟨b1,b2⟩:=bytesL_get els xs hb
 have hr:=h6.els hx
 refine ⟨_,w,?_,R.put h1 h2 h3 h4 h5 (.v (.string (strOfNums xs)) rfl)⟩
 unfold execOp;rw [ho]
 rcases hr.slice with ⟨rfl,hv⟩ | ⟨b,off,cap,size,f,hv,s0,s1,s2,s3⟩ | ⟨rfl,ad,hv⟩
 rotate_left 2
 ·have:xs=[]:=List.eq_nil_of_length_eq_zero (by simpa using b1)
  subst this
  have hl:(loadCells ad 0).run E.P w = .ok ((([]:List Int).map (Value.int .u8)).toArray) w:=by
   have:=run_loadCells_list (P:=E.P) w ad [] (fun j v hj=>by simp at hj)
   simpa using this
  have hc:(convert s t (.slice (some ad) 0 0)).run E.P w = .ok (.string (strOfNums [])) w:=by
   rw [run_convert_bytes_string w s t e _ 0 0 (hs.el e he) (hte.ik _ hk) ht,run_bytesToString w _ 0 0 [] hl]
   rfl
  simp only [hv,Sem.run_bind,List.length_nil,hc]
  rfl
 ·have:xs=[]:=List.eq_nil_of_length_eq_zero (by simpa using b1)
  subst this
  simp only [hv,Sem.run_bind,run_convert_bytes_nil (w:=w) s e (hs.el e he) (hte.ik _ hk) 0 0 t ht]
  rfl
 ·have hcell:∀ j,j < els.length→w.cell? ⟨b,off + j,none⟩=some (.int .u8 (xs.getD j 0)):=fun j hj=>by
   have e1:=b2 j hj
   have hsz:size=1:=by have:=s1 _ (List.mem_of_getElem? e1);simpa using this.symm
   subst hsz
   have e2:=s3 j 0 _ _ e1 rfl
   have e3:=(s2 (j * 1 + 0) (by omega)).2
   rw [h1] at e3
   generalize f (j * 1 + 0)=u at e2 e3
   cases e2
   simpa using e3
  simp only [hv,Sem.run_bind,run_convert_bytes_arg w s e (hs.el e he) (hte.ik _ hk) b off els.length cap xs b1 hcell t ht]
  rfl
theorem op_len (h:R E st a w) (t:TypeId) (x:Operand) (ho:o.op = .call { callee:=.builtin .len,args:=#[x],argTypes:=#[t] }) {i:TyI} (ht:TyOk E.P t i) {e:TypeId} (he:i.elem=some e) {els:List (List DV)} (hx:(st.ev x).els=some els) :
  Yields E o (st.put o.dst (.v (.int .i64 els.length))) a w:=by
 obtain ⟨c,h1,h2,h3,h4,h5,h6⟩:=h.get x
 have hr:=h6.els hx
 have hv:∃ ad cap,a.eval x = .slice ad els.length cap:=by
  rcases hr.slice with ⟨rfl,hv⟩ | ⟨b,off,cap,size,f,hv,_⟩ | ⟨rfl,ad,hv⟩
  ·exact ⟨none,0,hv⟩
  ·exact ⟨_,cap,hv⟩
  ·exact ⟨_,0,hv⟩
 obtain ⟨ad,cap,hv⟩:=hv
 refine ⟨_,w,?_,R.put h1 h2 h3 h4 h5 (.v (.int .i64 els.length) rfl)⟩
 unfold execOp;rw [ho]
 simp [resolve,invoke,BigFrame.builtin_len,hv,Builtin.len_,run_underlying (ht.el e he),goInt]
theorem op_len_str (h:R E st a w) (t:TypeId) (x:Operand) (ho:o.op = .call { callee:=.builtin .len,args:=#[x],argTypes:=#[t] }) (ht:E.P.underlying t=some .string) {s:ByteArray} (hx:st.ev x = .v (.string s)) :
  Yields E o (st.put o.dst (.v (.int .i64 s.size))) a w:=by
 obtain ⟨c,h1,h2,h3,h4,h5,h6⟩:=h.get x
 have e1:a.eval x = .string s:=by rw [hx] at h6;generalize a.eval x=z at h6;cases h6;rfl
 refine ⟨_,w,?_,R.put h1 h2 h3 h4 h5 (.v (.int .i64 s.size) rfl)⟩
 unfold execOp;rw [ho]
 simp [resolve,invoke,BigFrame.builtin_len,e1,Builtin.len_,run_underlying ht,goInt]
theorem op_indexAddr (h:R E st a w) (t:TypeId) (x y:Operand) (ho:o.op = .indexAddr t x y) {i ie:TyI} (ht:TyOk E.P t i) {e:TypeId} (he:i.elem=some e) (hte:TyOk E.P e ie) {els:List (List DV)} (hx:(st.ev x).els=some els)
  {k:IntKind} {n:Int} (hy:st.ev y = .v (.int k n)) (h0:0≤n) {row:List DV} (hrow:els[n.toNat]? = some row) (hsz:row.length=ie.size):Yields E o (st.put o.dst (.el row)) a w:=by
 obtain ⟨c,h1,h2,h3,h4,h5,h6⟩:=h.get x
 have hr:=h6.els hx
 have h7:=R.ev h3 y
 have e2:a.eval y = .int k n:=by rw [hy] at h7;generalize a.eval y=z at h7;cases h7;rfl
 have hlt:=(List.getElem?_eq_some_iff.1 hrow).1
 rcases hr.slice with ⟨rfl,hv⟩ | ⟨b,off,cap,size,f,hv,_,s1,s2,s3⟩ | ⟨rfl,_,hv⟩
 ·simp at hlt
 rotate_left
 ·simp at hlt
 obtain rfl:size=ie.size:=by rw [← s1 row (List.mem_of_getElem? hrow)];exact hsz
 have hn:n < (els.length:Int):=by omega
 refine ⟨.pointer (some ⟨b,off + n.toNat * ie.size,none⟩),w,?_,R.put h1 h2 h3 h4 h5 (.el row b (off + n.toNat * ie.size) (fun j=>f (n.toNat * ie.size + j)) (fun q hq=>?_) (fun j z hz=>s3 _ _ _ _ hrow hz))⟩
 ·unfold execOp;rw [ho]
  simp [Instr.indexAt,asIntOf,e2,hv,run_underlying (ht.el e he),h0,hn,sizeOf_ok hte,add_none]
 ·rw [hsz] at hq
  have:n.toNat * ie.size + q < els.length * ie.size:=by
   have:=Nat.mul_le_mul_right ie.size (show n.toNat + 1≤els.length by omega);rw [Nat.add_mul] at this;omega
  have:=s2 _ this
  rwa [← Nat.add_assoc] at this
theorem op_index_str (h:R E st a w) (t:TypeId) (x y:Operand) (ho:o.op = .index t x y) (ht:E.P.underlying t=some .string) {s:ByteArray} (hx:st.ev x = .v (.string s)) {k:IntKind} {n:Int} (hy:st.ev y = .v (.int k n)) (h0:0≤n) (hn:n.toNat < s.size) :
  Yields E o (st.put o.dst (.v (.int .u8 (s[n.toNat]'hn).toNat))) a w:=by
 obtain ⟨c,h1,h2,h3,h4,h5,h6⟩:=h.get x
 have h7:=R.ev h3 y
 have e1:a.eval x = .string s:=by rw [hx] at h6;generalize a.eval x=z at h6;cases h6;rfl
 have e2:a.eval y = .int k n:=by rw [hy] at h7;generalize a.eval y=z at h7;cases h7;rfl
 refine ⟨_,w,?_,R.put h1 h2 h3 h4 h5 (.v (.int .u8 (s[n.toNat]'hn).toNat) rfl)⟩
 unfold execOp;rw [ho]
 simp [Instr.index,asIntOf,e1,e2,run_underlying ht,h0,hn]
theorem op_extract (h:R E st a w) (x:Operand) (k:Nat) (ho:o.op = .extract x k) {ls:List AV} (hx:st.ev x = .tup ls) {r:AV} (hr:ls[k]? = some r):Yields E o (st.put o.dst r) a w:=by
 obtain ⟨c,h1,h2,h3,h4,h5,h6⟩:=h.get x
 rw [hx] at h6
 obtain ⟨cs,hv,hn,hh⟩:∃ cs:Array Value,a.eval x = .tuple cs∧cs.size=ls.length∧∀ (j:Nat) (y:AV),ls[j]? = some y→Rd c y (cs.getD j undef):=by
  generalize a.eval x=u at h6
  cases h6 with
  | tup ls cs hn hh=>exact ⟨cs,rfl,hn,hh⟩
 have hlt:k < cs.size:=by rw [hn];exact (List.getElem?_eq_some_iff.1 hr).1
 have:=hh k r hr
 refine ⟨cs.getD k undef,w,?_,R.put h1 h2 h3 h4 h5 this⟩
 unfold execOp;rw [ho]
 simp [Instr.extract,hv,hlt,Array.getD_eq_getD_getElem?]
def BndOk (st:St) (y:Option Operand) (d n:Int):Prop :=
 match y with
 | none=>n=d
 | some y=>∃ k,st.ev y = .v (.int k n)
theorem op_slice_str (h:R E st a w) (t:TypeId) (x:Operand) (lo hi:Option Operand) (ho:o.op = .slice t x lo hi none) (ht:E.P.underlying t=some .string) {s:ByteArray} (hx:st.ev x = .v (.string s))
  {l u:Int} (hlo:BndOk st lo 0 l) (hhi:BndOk st hi s.size u) (h0:0≤l) (h01:l≤u) (hu:u≤s.size) :
  Yields E o (st.put o.dst (.v (.string (s.extract l.toNat u.toNat)))) a w:=by
 obtain ⟨c,h1,h2,h3,h4,h5,h6⟩:=h.get x
 have e1:a.eval x = .string s:=by rw [hx] at h6;generalize a.eval x=z at h6;cases h6;rfl
 have evi:∀ {y:Operand} {k:IntKind} {n:Int},st.ev y = .v (.int k n)→a.eval y = .int k n:=fun {y k n} hy=>by
  have h7:=R.ev h3 y
  rw [hy] at h7;generalize a.eval y=z at h7;cases h7;rfl
 refine ⟨_,w,?_,R.put h1 h2 h3 h4 h5 (.v (.string (s.extract l.toNat u.toNat)) rfl)⟩
 unfold execOp;rw [ho]
 cases lo with
 | none =>
  simp only [BndOk] at hlo
  subst hlo
  cases hi with
  | none =>
   simp only [BndOk] at hhi
   subst hhi
   simp [run_sliceAt_string w t _ _ _ _ ht,e1,run_slice_string_all w t s ht]
  | some y =>
   obtain ⟨k,hy⟩:=hhi
   simp [run_sliceAt_string w t _ _ _ _ ht,e1,evi hy,run_slice_string_to_if w t s k u ht,hu,h01]
 | some y =>
  obtain ⟨k,hy⟩:=hlo
  cases hi with
  | none =>
   simp only [BndOk] at hhi
   subst hhi
   simp [run_sliceAt_string w t _ _ _ _ ht,e1,evi hy,run_slice_string_from_if w t s k l ht,h0,h01]
  | some y' =>
   obtain ⟨k',hy'⟩:=hhi
   simp [run_sliceAt_string w t _ _ _ _ ht,e1,evi hy,evi hy',run_slice_string w t s k k' l u ht h0 h01 hu]
theorem op_slice (h:R E st a w) (t:TypeId) (x:Operand) (lo hi:Option Operand) (ho:o.op = .slice t x lo hi none) {i ie:TyI} (ht:TyOk E.P t i) {e:TypeId} (he:i.elem=some e) (hte:TyOk E.P e ie) {els:List (List DV)} (hx:(st.ev x).els=some els)
  {l u:Int} (hlo:BndOk st lo 0 l) (hhi:BndOk st hi els.length u) (h0:0≤l) (h01:l≤u) (hu:u≤els.length) (hsz:∀ row ∈ els,row.length=ie.size) :
  Yields E o (st.put o.dst (.sl none ((els.take u.toNat).drop l.toNat))) a w:=by
 obtain ⟨c,h1,h2,h3,h4,h5,h6⟩:=h.get x
 have hr:=h6.els hx
 have evi:∀ {y:Operand} {k:IntKind} {n:Int},st.ev y = .v (.int k n)→a.eval y = .int k n:=fun {y k n} hy=>by
  have h7:=R.ev h3 y
  rw [hy] at h7;generalize a.eval y=z at h7;cases h7;rfl
 have hv:∃ ad cap,a.eval x = .slice ad els.length cap∧els.length≤cap∧RdD c.w c.S (.sl ((els.take u.toNat).drop l.toNat)) (.slice (if cap=l.toNat then ad else ad.map (·.add (l.toNat * ie.size))) (u.toNat - l.toNat) (cap - l.toNat)):=by
  rcases hr.slice with ⟨rfl,hv⟩ | ⟨b,off,cap,size,f,hv,hc,s1,s2,s3⟩ | ⟨rfl,ad,hv⟩
  ·refine ⟨none,0,hv,Nat.le_refl _,?_⟩
   have e1:u=0:=by simp at hu;omega
   have e2:l=0:=by omega
   subst e1;subst e2
   exact .nil
  rotate_left
  ·refine ⟨some ad,0,hv,Nat.le_refl _,?_⟩
   have e1:u=0:=by simp at hu;omega
   have e2:l=0:=by omega
   subst e1;subst e2
   exact .em ad
  ·refine ⟨_,cap,hv,hc,?_⟩
   have hul:u.toNat≤els.length:=by omega
   have hll:l.toNat≤u.toNat:=by omega
   have hlen:((els.take u.toNat).drop l.toNat).length=u.toNat - l.toNat:=by simp;omega
   by_cases hcl:cap=l.toNat
   ·have e0:(els.take u.toNat).drop l.toNat=[]:=by rw [List.eq_nil_iff_length_eq_zero,hlen];omega
    rw [if_pos hcl,e0]
    have e1:u.toNat - l.toNat=0:=by omega
    rw [e1]
    exact .sl [] b off 0 _ 0 (fun _=>undef) rfl (by omega) (by simp) (fun k hk=>by omega) (fun _ _ _ _ h=>by simp at h)
   ·rw [if_neg hcl]
    simp only [Option.map_some,add_none]
    have hsize:els≠[]→size=ie.size:=fun hne=>size_of_rows s1 hsz hne
    refine .sl _ b _ (u.toNat - l.toNat) _ ie.size (fun k=>f (l.toNat * ie.size + k)) hlen.symm (by omega) (fun row hr=>hsz row (List.mem_of_mem_take (List.mem_of_mem_drop hr))) (fun k hk=>?_) (fun p q row z hp hq=>?_)
    ·have hne:els≠[]:=by
      intro e;subst e
      have:u.toNat - l.toNat=0:=by simp at hul;omega
      rw [this] at hk;simp at hk
     obtain rfl:=hsize hne
     have:l.toNat * ie.size + k < els.length * ie.size:=by
      have h9:l.toNat * ie.size + (u.toNat - l.toNat) * ie.size=u.toNat * ie.size:=by rw [← Nat.add_mul];congr 1;omega
      have:=Nat.mul_le_mul_right ie.size hul
      omega
     have:=s2 _ this
     rwa [← Nat.add_assoc] at this
    ·rw [List.getElem?_drop,List.getElem?_take] at hp
     split at hp
     ·have hne:els≠[]:=by intro e;subst e;simp at hp
      obtain rfl:=hsize hne
      have:=s3 _ _ _ _ hp hq
      rwa [Nat.add_mul,Nat.add_assoc] at this
     ·cases hp
 obtain ⟨ad,cap,hv,hcap,hrd⟩:=hv
 refine ⟨_,w,?_,R.put h1 h2 h3 h4 h5 (.sl none _ _ hrd trivial)⟩
 unfold execOp;rw [ho]
 have hb:(Instr.sliceBounds true els.length cap (lo.map a.eval) (hi.map a.eval) none).run E.P w = .ok (l.toNat,u.toNat,cap) w:=by
  have hu':u≤(cap:Int):=by omega
  cases lo with
  | none =>
   simp only [BndOk] at hlo
   subst hlo
   cases hi with
   | none=>simp only [BndOk] at hhi;subst hhi;simp [Instr.sliceBounds]
   | some y =>
    obtain ⟨k,hk⟩:=hhi
    simp [Instr.sliceBounds,Instr.sliceBound,evi hk,asIntOf,h01,hu']
  | some z =>
   obtain ⟨k',hk'⟩:=hlo
   cases hi with
   | none=>simp only [BndOk] at hhi;subst hhi;simp [Instr.sliceBounds,Instr.sliceBound,evi hk',asIntOf,h0,h01]
   | some y =>
    obtain ⟨k,hk⟩:=hhi
    have h0u:0≤u:=by omega
    have hlu:¬ (max u 0 < l):=by omega
    simp [Instr.sliceBounds,Instr.sliceBound,evi hk,evi hk',asIntOf,h0,h0u,hu',hlu]
 simp [Instr.sliceAt,Instr.slice,run_underlying (ht.el e he),hv,hb,sizeOf_ok hte]
theorem op_slice_nl (h:R E st a w) (t:TypeId) (x:Operand) (lo hi:Option Operand) (ho:o.op = .slice t x lo hi none) {i ie:TyI} (ht:TyOk E.P t i) {e:TypeId} (he:i.elem=some e) (hte:TyOk E.P e ie) (hx:st.ev x = .nl)
  {l u:Int} (hlo:BndOk st lo 0 l) (hhi:BndOk st hi 0 u) (h0:l=0) (hu:u=0):Yields E o (st.put o.dst .nl) a w:=by
 obtain ⟨c,h1,h2,h3,h4,h5,h6⟩:=h.get x
 have evi:∀ {y:Operand} {k:IntKind} {n:Int},st.ev y = .v (.int k n)→a.eval y = .int k n:=fun {y k n} hy=>by
  have h7:=R.ev h3 y
  rw [hy] at h7;generalize a.eval y=z at h7;cases h7;rfl
 have hv:a.eval x = .slice none 0 0:=by rw [hx] at h6;generalize a.eval x=u at h6;cases h6;rfl
 subst h0;subst hu
 refine ⟨.slice none 0 0,w,?_,R.put h1 h2 h3 h4 h5 .nl⟩
 unfold execOp;rw [ho]
 have hb:(Instr.sliceBounds true 0 0 (lo.map a.eval) (hi.map a.eval) none).run E.P w = .ok (0,0,0) w:=by
  cases lo with
  | none =>
   cases hi with
   | none=>simp [Instr.sliceBounds]
   | some y =>
    obtain ⟨k,hk⟩:=hhi
    simp [Instr.sliceBounds,Instr.sliceBound,evi hk,asIntOf]
  | some z =>
   obtain ⟨k',hk'⟩:=hlo
   cases hi with
   | none=>simp [Instr.sliceBounds,Instr.sliceBound,evi hk',asIntOf]
   | some y =>
    obtain ⟨k,hk⟩:=hhi
    simp [Instr.sliceBounds,Instr.sliceBound,evi hk,evi hk',asIntOf]
 simp [Instr.sliceAt,Instr.slice,run_underlying (ht.el e he),hv,hb,sizeOf_ok hte]
theorem op_cap_nl (h:R E st a w) (t:TypeId) (x:Operand) (ho:o.op = .call { callee:=.builtin .cap,args:=#[x],argTypes:=#[t] }) {i:TyI} (ht:TyOk E.P t i) {e:TypeId} (he:i.elem=some e) (hx:st.ev x = .nl) :
  Yields E o (st.put o.dst (.v (.int .i64 0))) a w:=by
 obtain ⟨c,h1,h2,h3,h4,h5,h6⟩:=h.get x
 have hv:a.eval x = .slice none 0 0:=by rw [hx] at h6;generalize a.eval x=u at h6;cases h6;rfl
 refine ⟨_,w,?_,R.put h1 h2 h3 h4 h5 (.v (.int .i64 0) rfl)⟩
 unfold execOp;rw [ho]
 simp [resolve,invoke,BigFrame.builtin_cap,hv,Builtin.cap_,run_underlying (ht.el e he),goInt]
end
def fillL (pl:Nat→Option (Nat × Nat)):List AV→List (Nat × List AV)→Option (List AV)
 | zs,[]=>some zs
 | zs,(k,ls)::rest =>
  match pl k with
  | some (off,sz)=>if ls.length=sz∧off + sz≤zs.length then fillL pl (setL zs off ls) rest else none
  | none=>none
theorem foldl_setA (vs:List Value):∀ (cs:Array Value) (off k:Nat),(vs.zipIdx k).foldl (fun cs p=>cs.setIfInBounds (off + p.2) p.1) cs=setA cs (off + k) vs:=by
 induction vs with
 | nil=>intro cs off k;rfl
 | cons v vs ih=>intro cs off k;simp only [List.zipIdx_cons,List.foldl_cons,setA];rw [ih,Nat.add_assoc]
theorem fill_ok {c:Gh} {pl:Nat→Option (Nat × Nat)}:∀ (ps:List (Nat × List AV)) (vs:List (Nat × Value)) (zs rs:List AV) (cells:Array Value),fillL pl zs ps=some rs→ps.length=vs.length→
  (∀ (j:Nat) (p:Nat × List AV) (v:Nat × Value),ps[j]? = some p→vs[j]? = some v→p.1=v.1∧v.2.cells.size=p.2.length∧∀ (q:Nat) (x:AV),p.2[q]? = some x→Rd c x (v.2.cells.getD q undef))→
  cells.size=zs.length→(∀ (j:Nat) (x:AV),zs[j]? = some x→Rd c x (cells.getD j undef))→
  ∃ cs',Instr.fill pl cells vs=some cs'∧cs'.size=rs.length∧∀ (j:Nat) (x:AV),rs[j]? = some x→Rd c x (cs'.getD j undef)
 | [],vs,zs,rs,cells,h,hl,_,hs,hz=>by
  obtain rfl:vs=[]:=by cases vs<;>simp_all
  obtain rfl:=Option.some.inj h
  exact ⟨cells,rfl,hs,hz⟩
 | (k,ls)::ps,vs,zs,rs,cells,h,hl,hp,hs,hz=>by
  obtain ⟨⟨k',v⟩,vs,rfl⟩:∃ p vs',vs=p::vs':=by cases vs<;>simp_all
  obtain ⟨rfl,h1,h2⟩:=hp 0 _ _ rfl rfl
  simp only at h1 h2
  simp only [fillL] at h
  cases hpl:pl k with
  | none=>simp [hpl] at h
  | some os =>
   obtain ⟨off,sz⟩:=os
   simp only [hpl] at h
   split at h
   ·rename_i hc
    obtain ⟨hc1,hc2⟩:=hc
    have e:v.cells.zipIdx.foldl (fun cs (p:Value × Nat)=>cs.setIfInBounds (off + p.2) p.1) cells=setA cells off v.cells.toList:=by
     rw [← Array.foldl_toList]
     have:=foldl_setA v.cells.toList cells off 0
     simp only [Array.toList_zipIdx,Nat.add_zero] at this ⊢
     exact this
    obtain ⟨cs',f1,f2,f3⟩:=fill_ok ps vs (setL zs off ls) rs (setA cells off v.cells.toList) h (by simpa using hl) (fun j p u hpj hu=>hp (j + 1) p u (by simpa using hpj) (by simpa using hu)) (by rw [setA_size,setL_len];exact hs)
     (setLA ls v.cells.toList zs cells off (by simpa using h1.symm) (fun j x u hx hu=>by
      have:=h2 j x hx
      simp only [Array.getElem?_toList] at hu
      rwa [Array.getD_eq_getD_getElem?,hu] at this) hs hz)
    refine ⟨cs',?_,f2,f3⟩
    simp only [Instr.fill,hpl]
    rw [if_neg (by simp;omega)]
    rw [← f1]
    congr 1
   ·cases h
def chunks (s:Nat):Nat→List DV→List (List DV)
 | 0,_=>[]
 | n + 1,l=>l.take s::chunks s n (l.drop s)
theorem chunks_len (s:Nat):∀ (n:Nat) (l:List DV),(chunks s n l).length=n
 | 0,_=>rfl
 | n + 1,l=>by simp [chunks,chunks_len s n]
theorem chunks_row (s:Nat):∀ (n:Nat) (l:List DV),l.length=n * s→∀ row ∈ chunks s n l,row.length=s
 | 0,_,_,row,h=>by simp [chunks] at h
 | n + 1,l,hl,row,h=>by
  rw [Nat.add_mul] at hl
  simp only [chunks,List.mem_cons] at h
  rcases h with rfl | h
  ·simp;omega
  ·exact chunks_row s n (l.drop s) (by simp;omega) row h
theorem chunks_get (s:Nat):∀ (n:Nat) (l:List DV) (p q:Nat) (row:List DV) (x:DV),(chunks s n l)[p]? = some row→row[q]? = some x→l[p * s + q]? = some x
 | 0,_,p,q,row,x,h,_=>by simp [chunks] at h
 | n + 1,l,0,q,row,x,h,hq=>by
  obtain rfl:=Option.some.inj (show some (l.take s)=some row from h)
  rw [List.getElem?_take] at hq
  split at hq
  ·simpa using hq
  ·cases hq
 | n + 1,l,p + 1,q,row,x,h,hq=>by
  have:=chunks_get s n (l.drop s) p q row x (by simpa [chunks] using h) hq
  rw [List.getElem?_drop] at this
  rw [← this];congr 1;rw [Nat.add_mul];omega
def partsL (st:St):List (Nat × Operand)→Option (List (Nat × List AV))
 | []=>some []
 | (k,x)::l=>match (st.ev x).leaves,partsL st l with
  | some ls,some r=>some ((k,ls)::r)
  | _,_=>none
theorem partsL_ok {c:Gh} {st:St} {a:Act} (hσ:∀ x,Rd c (lk x st.σ) (a.tmps.getD x undef)):∀ (l:List (Nat × Operand)) (ps:List (Nat × List AV)),partsL st l=some ps→
  ps.length=(l.map fun (i,x)=>(i,a.eval x)).length∧∀ (j:Nat) (p:Nat × List AV) (v:Nat × Value),ps[j]? = some p→(l.map fun (i,x)=>(i,a.eval x))[j]? = some v→p.1=v.1∧v.2.cells.size=p.2.length∧∀ (q:Nat) (x:AV),p.2[q]? = some x→Rd c x (v.2.cells.getD q undef)
 | [],ps,h=>by obtain rfl:=Option.some.inj h;exact ⟨rfl,fun j p v hp=>by simp at hp⟩
 | (k,x)::l,ps,h=>by
  simp only [partsL] at h
  cases hx:(st.ev x).leaves with
  | none=>simp [hx] at h
  | some ls =>
   cases hr:partsL st l with
   | none=>simp [hx,hr] at h
   | some r =>
    simp only [hx,hr] at h
    obtain rfl:=Option.some.inj h
    obtain ⟨i1,i2⟩:=partsL_ok hσ l r hr
    refine ⟨by simp only [List.length_cons,List.map_cons,i1],fun j p v hp hv=>?_⟩
    match j,hp,hv with
    | 0,hp,hv =>
     obtain rfl:=Option.some.inj hp
     obtain rfl:=Option.some.inj (show some (k,a.eval x)=some v from hv)
     obtain ⟨l1,l2⟩:=(R.ev hσ x).leaves hx
     exact ⟨rfl,l1,l2⟩
    | j + 1,hp,hv=>exact i2 j p v (by simpa using hp) (by simpa using hv)
def fldSizes (T:List (TypeId × TyI)):List (Nat × TypeId)→Option (List (Nat × Nat))
 | []=>some []
 | (off,t)::l=>match tyk t T,fldSizes T l with
  | some i,some r=>some ((off,i.size)::r)
  | _,_=>none
theorem fldSizes_ok {P:Program} {T:List (TypeId × TyI)} (hT:TysOk P T):∀ (fs:List Field) (l:List (Nat × TypeId)) (r:List (Nat × Nat)),fs.map (fun f=>(f.offset,f.type))=l→fldSizes T l=some r→fs.mapM (fun f=>(P.info? f.type).map fun i=>(f.offset,i.size))=some r
 | [],l,r,h,hr=>by
  obtain rfl:l=[]:=by simpa using h.symm
  obtain rfl:=Option.some.inj hr
  rfl
 | f::fs,l,r,h,hr=>by
  obtain rfl:=h
  simp only [List.map_cons,fldSizes] at hr
  cases hi:tyk f.type T with
  | none=>simp [hi] at hr
  | some i =>
   cases hq:fldSizes T (fs.map fun f=>(f.offset,f.type)) with
   | none=>simp [hi,hq] at hr
   | some q =>
    simp only [hi,hq] at hr
    obtain rfl:=Option.some.inj hr
    obtain ⟨inf,z,d,e1,e2,_⟩:=(hT.get hi).inf
    simp [List.mapM_cons,e1,e2,fldSizes_ok hT fs _ q rfl hq]
def Callable (P:Program) (f:FuncId):Prop:=∃ fn,P.funcs[f]? = some fn∧fn.body.isNone=false∧(fn.name == "runtime.NumGoroutine")=false
/- a box is settled: its contents stay as they are;pointers to it read as data -/
mutual
def AV.frz (d:Nat) (ys:List DV):AV→AV
 | .v x=>.v x
 | .nl=>.nl
 | .sl t els=>.sl t els
 | .agg ls=>.agg (AV.frzAll d ys ls)
 | .tup ls=>.tup (AV.frzAll d ys ls)
 | .cl f b ls=>.cl f b (AV.frzAll d ys ls)
 | .loc k off=>if k=d then .el (ys.drop off) else .loc k off
 | .xs k off n cap sz=>if k=d then (if off + n * sz≤ys.length then .sl none (chunks sz n ((ys.drop off).take (n * sz))) else .junk) else .xs k off n cap sz
 | .el ls=>.el ls
 | .rd=>.rd
 | .dv x=>.dv x
 | .mr k=>.mr k
 | .mb t=>.mb t
 | .junk=>.junk
def AV.frzAll (d:Nat) (ys:List DV):List AV→List AV
 | []=>[]
 | x::l=>x.frz d ys::AV.frzAll d ys l
end
theorem frzAll_eq (d:Nat) (ys:List DV) (ls:List AV):AV.frzAll d ys ls=ls.map (·.frz d ys):=by
 induction ls with
 | nil=>rfl
 | cons x l ih=>simp [AV.frzAll,ih]
def frzσ (d:Nat) (ys:List DV):List (Nat × AV)→List (Nat × AV)
 | []=>[]
 | (y,v)::l=>(y,v.frz d ys)::frzσ d ys l
def frzm (d:Nat) (ys:List DV):List (Nat × List AV)→List (Nat × List AV)
 | []=>[]
 | (y,v)::l=>if d=y then frzm d ys l else (y,AV.frzAll d ys v)::frzm d ys l
theorem lk_frz (d x:Nat) (ys:List DV) (l:List (Nat × AV)):lk x (frzσ d ys l)=(lk x l).frz d ys:=by
 induction l with
 | nil=>rfl
 | cons p l ih=>obtain ⟨y,v⟩:=p;simp only [frzσ,lk];split<;>simp [ih]
theorem lkm_frz (d x:Nat) (ys:List DV) (l:List (Nat × List AV)):lkm x (frzm d ys l)=if x=d then none else (lkm x l).map (AV.frzAll d ys):=by
 induction l with
 | nil=>simp [frzm,lkm]
 | cons p l ih =>
  obtain ⟨y,v⟩:=p
  simp only [frzm]
  by_cases h:d=y
  ·subst h
   rw [if_pos rfl,ih]
   by_cases hx:x=d
   ·simp [hx]
   ·simp only [lkm,if_neg hx]
  ·rw [if_neg h]
   simp only [lkm]
   by_cases hxy:x=y
   ·subst hxy;rw [if_pos rfl,if_pos rfl,if_neg (fun e=>h e.symm)];rfl
   ·rw [if_neg hxy,if_neg hxy,ih]
def St.frz (st:St) (d:Nat) (ys:List DV):St:={ st with σ:=frzσ d ys st.σ,m:=frzm d ys st.m }
theorem Rd.frz {c c':Gh} {d:Nat} {ys:List DV} (hk:Keeps c.w c.S c'.w c'.S) (hg:c'.g=c.g) (hβ:c'.β=c.β) (htv:c'.tv=c.tv) (hte:c'.te=c.te) {cs:Nat→Value}
  (hc:∀ k,k < ys.length→c'.S (c.β d) k∧c'.w.cell? ⟨c.β d,k,none⟩=some (cs k)) (hy:∀ j x,ys[j]? = some x→RdD c'.w c'.S x (cs j)) {x:AV} {v:Value} (h:Rd c x v):Rd c' (x.frz d ys) v:=by
 induction h with
 | v x h=>exact .v x h
 | junk x=>exact .junk x
 | nl=>exact .nl
 | rd=>simp only [AV.frz];rw [← hg];exact .rd
 | dv x v h=>exact .dv x v (h.keep hk)
 | mr1 k hb=>simp only [AV.frz];rw [← hβ];exact .mr1 k hb
 | mr2 k hb=>simp only [AV.frz];rw [← hβ];exact .mr2 k hb
 | mb t=>exact .mb t
 | loc k off hb =>
  simp only [AV.frz]
  split
  ·rename_i e;subst e
   refine .el _ (c.β k) off (fun j=>cs (off + j)) (fun j hj=>?_) (fun j x hx=>?_)
   ·simp only [List.length_drop] at hj
    exact hc (off + j) (by omega)
   ·rw [List.getElem?_drop] at hx
    exact hy (off + j) x hx
  ·rw [← hβ];exact .loc k off hb
 | xs k off n cap sz hcap hb =>
  simp only [AV.frz]
  split
  ·rename_i e;subst e
   split
   ·rename_i hfit
    have hlen:((ys.drop off).take (n * sz)).length=n * sz:=by simp;omega
    refine .sl none _ _ (.sl _ (c.β k) off n cap sz (fun j=>cs (off + j)) (chunks_len ..).symm hcap (chunks_row sz n _ hlen) (fun j hj=>hc (off + j) (by omega)) fun i j row x hi hj=>?_) trivial
    have:=chunks_get sz n _ i j row x hi hj
    rw [List.getElem?_take] at this
    split at this
    ·rw [List.getElem?_drop] at this
     exact hy _ _ this
    ·cases this
   ·exact .junk _
  ·rw [← hβ];exact .xs k off n cap sz hcap hb
 | sl tok els v h ht =>
  refine .sl _ els v (h.keep hk) ?_
  unfold TokC at *
  split
  ·trivial
  ·simp only [htv,hte] at *;exact ht
 | agg ls cs hn _ ih =>
  simp only [AV.frz,frzAll_eq]
  refine .agg _ cs (by simpa using hn) fun j x hx=>?_
  obtain ⟨y,hy,rfl⟩:=by simpa using hx
  exact ih j y hy
 | tup ls cs hn _ ih =>
  simp only [AV.frz,frzAll_eq]
  refine .tup _ cs (by simpa using hn) fun j x hx=>?_
  obtain ⟨y,hy,rfl⟩:=by simpa using hx
  exact ih j y hy
 | cl1 fu ls cs hn _ ih =>
  simp only [AV.frz,frzAll_eq]
  refine .cl1 fu _ cs (by simpa using hn) fun j x hx=>?_
  obtain ⟨y,hy,rfl⟩:=by simpa using hx
  exact ih j y hy
 | cl2 fu ls cs hn _ ih =>
  simp only [AV.frz,frzAll_eq]
  refine .cl2 fu _ cs (by simpa using hn) fun j x hx=>?_
  obtain ⟨y,hy,rfl⟩:=by simpa using hx
  exact ih j y hy
 | el ls b off f hc hh=>exact .el ls b off f (fun k hkk=>hk.1 _ _ _ (hc k hkk).1 (hc k hkk).2) (fun j x hx=>(hh j x hx).keep hk)
theorem R.frzN {E : En} {st : St} {a : Act} {w : World} (h : R E st a w) {d : Nat} (hk0 : bk d = 0) (hL : ∀ c, Good E st.m st.rn c → ¬ E.L (c.β d)) {ls : List AV} (hl : lkm d st.m = some ls) {n : Nat} {ys : List DV} (hy : DV.ofAll (ls.take n) = some ys) : R E (st.frz d ys) a w := by
  obtain ⟨c, rfl, G, hσ, hnt, hd⟩ := h
  obtain ⟨cs, T, b1, b2, b3, b4, b5⟩ := (G.box d ls hl).cells hk0
  obtain ⟨q1, q2⟩ := ofAll_get hy
  have hB : E.w0.heap.size ≤ c.β d := by
    rcases b1 with h | h
    · exact h
    · exact absurd h (hL c G)
  have q1' : ys.length ≤ ls.length := by rw [q1]; simp; omega
  let c' : Gh := { c with S := fun b o => c.S b o ∨ (b = c.β d ∧ o < ys.length) }
  have hk : Keeps c.w c.S c'.w c'.S := Keeps.same (fun _ _ h => .inl h) fun _ _ _ => rfl
  have hcell : ∀ k, k < ys.length → c.w.cell? ⟨c.β d, k, none⟩ = some (cs.getD k undef) := fun k hk => by
    rw [cell_of_row c.w _ k cs T (0, 0) b2]
    have : k < cs.size := by omega
    simp [this, Array.getD_eq_getD_getElem?]
  have hrd : ∀ j x, ys[j]? = some x → RdD c.w c.S x (cs.getD j undef) := fun j x hx => by
    obtain ⟨u, hu, hux⟩ := q2 j x hx
    rw [List.getElem?_take] at hu
    split at hu
    · exact (b4 j u hu).ofAV hux
    · cases hu
  have hone : ∀ k, k < ys.length → (cs.getD k undef).oneCell' = true := fun k hk => (hrd k ys[k] (List.getElem?_eq_getElem hk)).one
  have hst : ∀ {x v}, Rd c x v → Rd c' (x.frz d ys) v := fun h => h.frz (c' := c') hk rfl rfl rfl rfl (cs := fun k => cs.getD k undef) (fun k hk => ⟨.inr ⟨rfl, hk⟩, hcell k hk⟩) (fun j x hx => (hrd j x hx).keep hk)
  refine ⟨c', rfl, ?_, fun x => by show Rd c' (lk x (frzσ d ys st.σ)) _; rw [lk_frz]; exact hst (hσ x), hnt, hd⟩
  exact { bl := G.bl, cg := G.cg, fr := G.fr, lx := G.lx,
          sx := fun b o h => by
            rcases h with h | ⟨rfl, h⟩
            · exact G.sx b o h
            · exact .inl ⟨_, hcell o h⟩
          s1 := fun b o v h hv => by
            rcases h with h | ⟨rfl, h⟩
            · exact G.s1 b o v h hv
            · have hv' : c.w.cell? ⟨c.β d, o, none⟩ = some v := hv
              rw [hcell o h] at hv'; obtain rfl := Option.some.inj hv'; exact hone o h
          sS := fun b o h => by
            rcases h with h | ⟨rfl, h⟩
            · exact G.sS b o h
            · exact .inl hB
          sg := fun hdd o h => by
            rcases h with h | ⟨h, _⟩
            · exact G.sg hdd o h
            · have := (G.rk hdd).1; omega
          box := fun k ls' hl' => by
            have hl' : lkm k (frzm d ys st.m) = some ls' := hl'
            rw [lkm_frz] at hl'
            split at hl'
            · cases hl'
            · rename_i hne
              obtain ⟨l, hl2, rfl⟩ := Option.map_eq_some_iff.1 hl'
              obtain ⟨cs', T', e1, e2, e3, e4, e5⟩ := G.box k l hl2
              refine ⟨cs', T', e1, e2, by simpa [frzAll_eq] using e3, fun j x hx => ?_, fun o h => ?_⟩
              · rw [frzAll_eq, List.getElem?_map, Option.map_eq_some_iff] at hx
                obtain ⟨y, hy', rfl⟩ := hx
                exact hst (e4 j y hy')
              · rcases h with h | ⟨h, _⟩
                · exact e5 o h
                · exact hne (G.boxinj k d l ls hl2 hl h)
          boxinj := fun k k' l l' h1 h2 he => by
            have h1 : lkm k (frzm d ys st.m) = some l := h1
            have h2 : lkm k' (frzm d ys st.m) = some l' := h2
            rw [lkm_frz] at h1 h2
            split at h1
            · cases h1
            · split at h2
              · cases h2
              · obtain ⟨l1, h1, _⟩ := Option.map_eq_some_iff.1 h1
                obtain ⟨l2, h2, _⟩ := Option.map_eq_some_iff.1 h2
                exact G.boxinj k k' _ _ h1 h2 he
          tok := fun k j => tok_keep (G.tok k j) rfl rfl fun b hb => ⟨rfl, fun o h => by
            rcases h with h | ⟨h, _⟩
            · exact h
            · exact absurd h.symm (G.tokbox k j b d ls hb hl)⟩
          toktok := G.toktok
          tokbox := fun k j b k' l hb h2 he => by
            have h2 : lkm k' (frzm d ys st.m) = some l := h2
            rw [lkm_frz] at h2
            split at h2
            · cases h2
            · obtain ⟨l2, h2, _⟩ := Option.map_eq_some_iff.1 h2
              exact G.tokbox k j b k' _ hb h2 he
          rk := G.rk }

theorem R.frz {E:En} {st:St} {a:Act} {w:World} (h:R E st a w) {d:Nat} (hk0:bk d=0) (hL:∀ c,Good E st.m st.rn c→¬ E.L (c.β d)) {ls:List AV} (hl:lkm d st.m=some ls) {ys:List DV} (hy:DV.ofAll ls=some ys):R E (st.frz d ys) a w :=
 h.frzN hk0 hL hl (n:=ls.length) (by rw [List.take_length];exact hy)
def valsA:List AV→Option (List Value)
 | []=>some []
 | .v x::l=>match valsA l with
  | some r=>some (x::r)
  | none=>none
 | _=>none
def ifcA (t:TypeId):AV→Option AV
 | .v u=>some (.v (.iface t u))
 | .agg ls=>match valsA ls with
  | some vs=>some (.v (.iface t (.agg vs.toArray)))
  | none=>none
 | x=>match DV.ofAV x with
  | some y=>some (.dv (.ifc t y))
  | none=>none
theorem valsA_get:∀ {ls:List AV} {vs:List Value},valsA ls=some vs→vs.length=ls.length∧∀ (j:Nat) (u:Value),vs[j]? = some u→ls[j]? = some (.v u)
 | [],vs,h=>by obtain rfl:=Option.some.inj h;exact ⟨rfl,fun j u hu=>by simp at hu⟩
 | x::l,vs,h=>by
  unfold valsA at h
  split at h
  ·rename_i e;cases e
  ·rename_i u l' e
   obtain ⟨rfl,rfl⟩:=List.cons.inj e
   split at h
   ·rename_i r hr
    obtain rfl:=Option.some.inj h
    obtain ⟨h1,h2⟩:=valsA_get hr
    refine ⟨by simp [h1],fun j u hu=>?_⟩
    match j,hu with
    | 0,hu=>obtain rfl:=Option.some.inj hu;rfl
    | j + 1,hu=>exact h2 j u (by simpa using hu)
   ·cases h
  ·cases h
theorem ifcA_ok {c:Gh} {t:TypeId} {x y:AV} {v:Value} (h:Rd c x v) (hy:ifcA t x=some y):Rd c y (.iface t v):=by
 unfold ifcA at hy
 split at hy
 ·obtain rfl:=Option.some.inj hy;cases h;exact .v _ rfl
 ·split at hy
  ·rename_i ls vs hvs
   obtain rfl:=Option.some.inj hy
   cases h with
   | agg ls cs hn hh =>
    obtain ⟨h1,h2⟩:=valsA_get hvs
    have:cs=vs.toArray:=by
     apply Array.ext
     ·simp [hn,h1]
     ·intro i hi1 hi2
      have hi3:i < vs.length:=by simpa using hi2
      have:=hh i _ (h2 i vs[i] (List.getElem?_eq_getElem hi3))
      have e:cs.getD i undef=cs[i]:=by simp [Array.getD_eq_getD_getElem?,hi1]
      rw [e] at this
      generalize cs[i]=u at this
      cases this
      simp
    subst this
    exact .v _ rfl
  ·cases hy
 ·split at hy
  ·rename_i d hd
   obtain rfl:=Option.some.inj hy
   exact .dv _ _ (.ifc t _ _ (h.ofAV hd))
  ·cases hy
section
variable {E:En} {st:St} {a:Act} {w:World} {o:Oper}
theorem op_build (h:R E st a w) (t:TypeId) (parts:Array (Nat × Operand)) (ho:o.op = .build t parts) {T:List (TypeId × TyI)} (hT:TysOk E.P T) {i:TyI} (ht:TyOk E.P t i) (hf:i.fields≠[]) {fl:List (Nat × Nat)} (hfl:fldSizes T i.fields=some fl)
  {ps:List (Nat × List AV)} (hps:partsL st parts.toList=some ps) {rs:List AV} (hrs:fillL (fun k=>fl[k]?) (i.zero.map leafOf) ps=some rs):Yields E o (st.put o.dst (.agg rs)) a w:=by
 obtain ⟨c,h1,h2,h3,h4,h5⟩:=h
 obtain ⟨q,z,dd,e1,e2,e3,e4,e5,_,e7,_⟩:=ht.inf
 obtain ⟨fs,f1,f2⟩:=ht.flds hf
 obtain ⟨p1,p2⟩:=partsL_ok h3 parts.toList ps hps
 obtain ⟨cs',g1,g2,g3⟩:=fill_ok (c:=c) ps _ (i.zero.map leafOf) rs z.cells hrs p1 p2 (by rw [← e4];simp) (fun j x hx=>by
  rw [← e4] at hx
  simp only [List.getElem?_map,Option.map_eq_some_iff,Array.getElem?_toList] at hx
  obtain ⟨u,hu,rfl⟩:=hx
  rw [Array.getD_eq_getD_getElem?,hu];exact Rd.leafOf c u)
 have hb:E.P.built t ((parts.map fun (i,x)=>(i,a.eval x)).toList)=some cs':=by
  unfold Program.built
  simp only [e1,f1,e3,fldSizes_ok hT fs.toList _ fl f2 hfl]
  rw [← g1];simp
 refine ⟨.agg cs',w,?_,R.put h1 h2 h3 h4 h5 (.agg rs cs' g2 g3)⟩
 unfold execOp;rw [ho]
 simp [run_build w t _ cs' hb]
theorem op_buildSlice (h:R E st a w) (d:Nat) (hd:o.dst=some d) (t:TypeId) (n:Nat) (parts:Array (Nat × Operand)) (ho:o.op = .buildSlice t n parts) {i ie:TyI} (ht:TyOk E.P t i) {e:TypeId} (he:i.elem=some e) (hte:TyOk E.P e ie) (hpos:0 < ie.size) (hsz:n * ie.size≤16777216)
  {ps:List (Nat × List AV)} (hps:partsL st parts.toList=some ps) {rs:List AV} (hrs:fillL (fun k=>some (k * ie.size,ie.size)) (List.replicate (n * ie.size) .junk) ps=some rs) {ys:List DV} (hys:DV.ofAll rs=some ys) :
  Yields E o ((st.strip d).put (some d) (.sl (some (d,0,e)) (chunks ie.size n ys))) a w:=by
 obtain ⟨c,h1,h2,h3,h4,h5⟩:=h
 obtain ⟨q,z,dd,e1,e2,e3,e4,e5,_⟩:=hte.inf
 obtain ⟨p1,p2⟩:=partsL_ok h3 parts.toList ps hps
 let zero:Array Value:=if n * ie.size=0 then #[] else z.cells
 obtain ⟨cs',g1,g2,g3⟩:=fill_ok (c:=c) ps _ (List.replicate (n * ie.size) .junk) rs ((Array.range (n * ie.size)).map (zero[· % zero.size]!)) hrs p1 p2 (by simp) (fun j x hx=>by
  rw [List.getElem?_replicate] at hx
  split at hx
  ·obtain rfl:=Option.some.inj hx;exact .junk _
  ·cases hx)
 obtain ⟨o1,o2⟩:=ofAll_get hys
 have hlen:ys.length=n * ie.size:=by
  rw [o1]
  have:∀ (ps:List (Nat × List AV)) (zs rs:List AV),fillL (fun k=>some (k * ie.size,ie.size)) zs ps=some rs→rs.length=zs.length:=by
   intro ps
   induction ps with
   | nil=>intro zs rs h;obtain rfl:=Option.some.inj h;rfl
   | cons p ps ih =>
    intro zs rs h
    obtain ⟨k,ls⟩:=p
    simp only [fillL] at h
    split at h
    ·rw [ih _ _ h,setL_len]
    ·cases h
  rw [this ps _ rs hrs];simp
 refine ⟨.slice (some ⟨w.heap.size,0,none⟩) n n,w.alloc (.cells cs' e),?_,?_⟩
 ·unfold execOp;rw [ho]
  have hnot:¬ (16777216 < n * ie.size):=by omega
  by_cases h0:n * ie.size=0
  ·have hz:zero = #[]:=if_pos h0
   rw [hz] at g1
   have g1':Instr.fill (fun i=>some (i * ie.size,ie.size)) (Array.map (fun _=>(default:Value)) (Array.range 0)) (List.map (fun x=>(x.fst,a.eval x.snd)) parts.toList)=some cs':=by
    rw [← g1];simp [h0]
   simp [Instr.buildSlice,run_underlying (ht.el e he),sizeOf_ok hte,h0,newRow]
   rw [g1'];simp
  ·have hz:zero=z.cells:=if_neg h0
   rw [hz] at g1
   simp [Instr.buildSlice,run_underlying (ht.el e he),sizeOf_ok hte,h0,hnot,newRow,zeroValue,typeInfo,e1,e3]
   have g1':Instr.fill (fun i=>some (i * ie.size,ie.size)) (Array.map (fun x=>z.cells[x % z.cells.size]!) (Array.range (n * ie.size))) (List.map (fun x=>(x.fst,a.eval x.snd)) parts.toList)=some cs':=g1
   rw [g1'];simp
 ·rw [hd]
  refine R.newrow h1 h2 h3 h4 h5 d w (.inl rfl) e q e1 (chunks ie.size n ys) n n cs' (chunks_len _ _ _) (Nat.le_refl _) (by have:=Nat.le_mul_of_pos_right n hpos;unfold maxLen;omega) (by rw [g2,e2,← o1,hlen]) (by rw [e2];exact chunks_row _ _ _ hlen) fun p r row x hp hr=>?_
  rw [e2]
  have hx:=chunks_get _ _ _ _ _ _ _ hp hr
  obtain ⟨y,hy,hyx⟩:=o2 _ _ hx
  rw [← h1]
  exact (g3 _ _ hy).ofAV hyx
theorem op_append (h:R E st a w) (d:Nat) (hd:o.dst=some d) (t:TypeId) (x y:Operand) (ho:o.op = .call { callee:=.builtin .append,args:=#[x,y],argTypes:=#[t,t] }) {i ie:TyI} (ht:TyOk E.P t i) {e:TypeId} (he:i.elem=some e) (hte:TyOk E.P e ie)
  {els ys:List (List DV)} {s:Nat} (hx:(st.ev x = .nl∧els=[]∧s=d)∨∃ j,st.ev x = .sl (some (s,j,e)) els) (hy:(st.ev y).els=some ys) (hrow:∀ row ∈ els++ys,row.length=ie.size) (hlen:els.length + ys.length≤4294967296) :
  Yields E o ((st.strip2 s d).put (some d) (.sl (some (d,0,e)) (els++ys))) a w:=by
 obtain ⟨c,h1,h2,h3,h4,h5,h6⟩:=h.get x
 have hyr:=(R.ev h3 y).els hy
 obtain ⟨q,z,dd,e1,e2,e3,e4,e5,e6,_⟩:=hte.inf
 have key:∃ j,(els=[]∧a.eval x = .slice none 0 0∧s=d)∨(RdD w c.S (.sl els) (a.eval x)∧c.tv s j=a.eval x∧c.te s j=e):=by
  rcases hx with ⟨hx,rfl,rfl⟩ | ⟨j,hx⟩
  ·rw [hx] at h6
   exact ⟨0,.inl ⟨rfl,by generalize a.eval x=u at h6;cases h6;rfl,rfl⟩⟩
  ·rw [hx] at h6
   refine ⟨j,.inr ?_⟩
   generalize a.eval x=u at h6
   cases h6 with
   | sl t els v hr htk=>rw [← h1];exact ⟨hr,htk.1,htk.2⟩
 obtain ⟨j,key⟩:=key
 obtain ⟨v',w',r1,r2⟩:=R.append h1 h2 h3 h4 h5 d s j t o.type e q z (ht.el e he) e1 e3 (by rw [e5,e2]) e6 els ys (a.eval x) (a.eval y) key (by rw [← h1];exact hyr) (by rw [e2];exact hrow) hlen
 refine ⟨v',w',?_,by rw [hd];exact r2⟩
 unfold execOp;rw [ho]
 simp [resolve,invoke,BigFrame.builtin_append,r1]
theorem op_callG (h:R E st a w) (f:FuncId) (vs:Array Value) (hr:(execOp a.eval o).run E.P w = .ok (.enter f vs) w) (ys:List AV) (hsz:vs.size=ys.length) (hrd:∀ c:Gh,c.w=w→(∀ x,Rd c (st.ev x) (a.eval x))→∀ (j:Nat) (x:AV),ys[j]? = some x→Rd c x (vs.getD j undef)) (her:∀ x ∈ ys,x.er=x)
  {C:Con} (hv:Valid E.P f C) (hi:∀ w,GrownL E.w0 w (if E.draws then some E.g else none) E.L→C.inv w)
  (hdr:C.draws=true→E.draws=true) (hpre:C.pre ys) (hcost:C.draws=true→st.rn + C.cost≤lim)
  {next:Act→World→Prop} {Q:Exit→Act→World→Prop} (hn:∀ r,C.post ys r→∀ a' w',R E (st.called o.dst C r) a' w'→next a' w'):o.wp E.P a w next Q:=by
 obtain ⟨c,h1,h2,h3,h4,h5⟩:=h
 unfold Oper.wp
 rw [hr]
 show Calls E.P f vs w _
 subst h1
 have hcall:=hv c ys vs E.bv E.w0.heap.size st.rn hsz (hrd c rfl fun x=>R.ev h3 x) her hpre (hi _ h2.fr) h2.sx h2.s1 (fun hd=>⟨by rw [h2.cg];exact h2.sg (hdr hd),by rw [h2.cg];exact h2.rk (hdr hd),h2.hle,hcost hd⟩)
 refine hcall.mono fun e w' ⟨v,r,c',he,hp,O⟩=>?_
 subst he
 exact hn r hp _ _ (R.called rfl h2 h3 h4 h5 o.dst hdr O)
theorem args_rd {c:Gh} {st:St} {a:Act} (h:∀ x,Rd c (st.ev x) (a.eval x)) (args:Array Operand):∀ (j:Nat) (x:AV),(args.toList.map fun x=>(st.ev x).er)[j]? = some x→Rd c x ((args.map a.eval).getD j undef):=fun j x hx=>by
 simp only [List.getElem?_map,Option.map_eq_some_iff] at hx
 obtain ⟨y,hy,rfl⟩:=hx
 have e:(args.map a.eval).getD j undef=a.eval y:=by
  rw [Array.getElem?_toList] at hy
  simp [Array.getD_eq_getD_getElem?,hy]
 rw [e]
 exact (h y).er (Keeps.same (fun _ _ h=>h) fun _ _ _=>rfl) rfl
theorem args_er {st:St} (args:Array Operand):∀ x ∈ (args.toList.map fun x=>(st.ev x).er),x.er=x:=fun x hx=>by
 simp only [List.mem_map] at hx
 obtain ⟨y,_,rfl⟩:=hx
 exact er_er _
theorem op_call (h:R E st a w) (f:FuncId) (fo:Operand) (args:Array Operand) (ats:Array TypeId) (ho:o.op = .call { callee:=.value fo,args:=args,argTypes:=ats }) (hf:st.ev fo = .v (.func (.func f) #[] #[])) (hc:Callable E.P f) {C:Con} (hv:Valid E.P f C) (hi:∀ w,GrownL E.w0 w (if E.draws then some E.g else none) E.L→C.inv w)
  (hdr:C.draws=true→E.draws=true) (hpre:C.pre (args.toList.map fun x=>(st.ev x).er)) (hcost:C.draws=true→st.rn + C.cost≤lim)
  {next:Act→World→Prop} {Q:Exit→Act→World→Prop} (hn:∀ r,C.post (args.toList.map fun x=>(st.ev x).er) r→∀ a' w',R E (st.called o.dst C r) a' w'→next a' w'):o.wp E.P a w next Q:=by
 have e1:a.eval fo = .func (.func f) #[] #[]:=by
  obtain ⟨c,h1,h2,h3,h4,h5,h6⟩:=h.get fo
  rw [hf] at h6;generalize a.eval fo=u at h6;cases h6;rfl
 obtain ⟨fn,f1,f2,f3⟩:=hc
 refine op_callG h f (args.map a.eval) ?_ _ (by simp) (fun c _ hx=>args_rd hx args) (args_er args) hv hi hdr hpre hcost hn
 unfold execOp;rw [ho]
 simp only [Sem.run_bind,resolve,e1,Deferred.ofValue,Sem.run_pure,Result.andThen_ok,invoke,callFunc,run_program]
 simp only [Array.empty_append,Array.append_empty,f1,f2,f3,Bool.false_eq_true,if_false,Sem.run_pure]
theorem toAV_er (x:DV):x.toAV.er=x.toAV:=by cases x<;>rfl
theorem op_callFn (h:R E st a w) (f:FuncId) (caps:List DV) (fo:Operand) (args:Array Operand) (ats:Array TypeId) (ho:o.op = .call { callee:=.value fo,args:=args,argTypes:=ats }) (hf:st.ev fo = .dv (.fn f caps)) (hc:Callable E.P f) {C:Con} (hv:Valid E.P f C) (hi:∀ w,GrownL E.w0 w (if E.draws then some E.g else none) E.L→C.inv w)
  (hdr:C.draws=true→E.draws=true) (hpre:C.pre ((args.toList.map fun x=>(st.ev x).er)++caps.map DV.toAV)) (hcost:C.draws=true→st.rn + C.cost≤lim)
  {next:Act→World→Prop} {Q:Exit→Act→World→Prop} (hn:∀ r,C.post ((args.toList.map fun x=>(st.ev x).er)++caps.map DV.toAV) r→∀ a' w',R E (st.called o.dst C r) a' w'→next a' w'):o.wp E.P a w next Q:=by
 obtain ⟨cs,e1⟩:∃ cs,a.eval fo = .func (.func f) #[] cs:=by
  obtain ⟨c,h1,h2,h3,h4,h5,h6⟩:=h.get fo
  rw [hf] at h6;generalize a.eval fo=u at h6
  cases h6 with | dv x v h=>cases h with | fn f ls vs hn hh=>exact ⟨_,rfl⟩
 have e2:∀ c:Gh,(∀ x,Rd c (st.ev x) (a.eval x))→cs.size=caps.length∧∀ j x,caps[j]? = some x→RdD c.w c.S x (cs.getD j undef):=fun c hx=>by
  have h6:=hx fo
  rw [hf,e1] at h6
  cases h6 with | dv x v h=>cases h with | fn f ls vs hn hh=>exact ⟨hn,hh⟩
 have hsz:cs.size=caps.length:=by
  obtain ⟨c,h1,h2,h3,h4,h5⟩:=h
  exact (e2 c fun x=>R.ev h3 x).1
 obtain ⟨fn,f1,f2,f3⟩:=hc
 refine op_callG h f (args.map a.eval++cs) ?_ _ (by simp [hsz]) (fun c _ hx j x hj=>?_) (fun x hx=>?_) hv hi hdr hpre hcost hn
 ·unfold execOp;rw [ho]
  simp only [Sem.run_bind,resolve,e1,Deferred.ofValue,Sem.run_pure,Result.andThen_ok,invoke,callFunc,run_program]
  simp only [Array.empty_append,Array.append_empty,f1,f2,f3,Bool.false_eq_true,if_false,Sem.run_pure]
 ·by_cases hl:j < (args.toList.map fun x=>(st.ev x).er).length
  ·rw [List.getElem?_append_left hl] at hj
   have:=args_rd hx args j x hj
   have e3:(args.map a.eval++cs).getD j undef=(args.map a.eval).getD j undef:=by
    simp only [Array.getD_eq_getD_getElem?]
    rw [Array.getElem?_append_left (by simpa using hl)]
   rw [e3];exact this
  ·have hl':(args.toList.map fun x=>(st.ev x).er).length≤j:=by omega
   rw [List.getElem?_append_right hl'] at hj
   simp only [List.getElem?_map,Option.map_eq_some_iff] at hj
   obtain ⟨y,hy,rfl⟩:=hj
   have e3:(args.map a.eval++cs).getD j undef=cs.getD (j - (args.toList.map fun x=>(st.ev x).er).length) undef:=by
    simp only [Array.getD_eq_getD_getElem?]
    rw [Array.getElem?_append_right (by simpa using hl')]
    simp
   rw [e3]
   exact ((e2 c hx).2 _ y hy).toAV
 ·rcases List.mem_append.1 hx with hx | hx
  ·exact args_er args x hx
  ·obtain ⟨y,_,rfl⟩:=List.mem_map.1 hx
   exact toAV_er y
def allOne:List Value→Bool
 | []=>true
 | v::l=>match v.oneCell' with | true=>allOne l | false=>false
def mapV:List Value→List AV
 | []=>[]
 | v::l=>.v v::mapV l
def ifcV:Value→Option AV
 | .agg vs=>match allOne vs.toList with
  | true=>some (.agg (mapV vs.toList))
  | false=>none
 | v=>match v.oneCell' with
  | true=>some (.v v)
  | false=>none
def ifcOf:AV→Option (TypeId × AV)
 | .dv (.ifc t x)=>some (t,x.toAV)
 | .v (.iface t v)=>match ifcV v with
  | some y=>some (t,y)
  | none=>none
 | _=>none
theorem mapV_er:∀ l:List Value,AV.erAll (mapV l)=mapV l
 | []=>rfl
 | v::l=>by simp only [mapV,AV.erAll,AV.er,mapV_er l]
theorem mapV_rd (c:Gh):∀ (l:List Value),allOne l=true→(mapV l).length=l.length∧∀ (j:Nat) (x:AV),(mapV l)[j]? = some x→∃ v,l[j]? = some v∧Rd c x v
 | [],_=>⟨rfl,fun j x h=>by simp [mapV] at h⟩
 | v::l,h=>by
  simp only [allOne] at h
  split at h
  ·rename_i hv
   obtain ⟨h1,h2⟩:=mapV_rd c l h
   refine ⟨by simp only [mapV,List.length_cons,h1],fun j x hx=>?_⟩
   cases j with
   | zero =>
    simp only [mapV,List.getElem?_cons_zero] at hx
    obtain rfl:=Option.some.inj hx
    exact ⟨v,rfl,.v _ hv⟩
   | succ j =>
    simp only [mapV,List.getElem?_cons_succ] at hx
    obtain ⟨u,hu,hr⟩:=h2 j x hx
    exact ⟨u,by simpa using hu,hr⟩
  ·cases h
theorem ifcV_ok {c:Gh} {v:Value} {y:AV} (h:ifcV v=some y):Rd c y v∧y.er=y:=by
 unfold ifcV at h
 split at h
 ·rename_i vs
  split at h
  ·rename_i ha
   obtain rfl:=Option.some.inj h
   obtain ⟨h1,h2⟩:=mapV_rd c _ ha
   refine ⟨.agg _ vs (by rw [h1];simp) fun j x hx=>?_,by simp only [AV.er,mapV_er]⟩
   obtain ⟨u,hu,hr⟩:=h2 j x hx
   rw [Array.getElem?_toList] at hu
   rw [Array.getD_eq_getD_getElem?,hu];exact hr
  ·cases h
 ·split at h
  ·rename_i hv
   obtain rfl:=Option.some.inj h
   exact ⟨.v _ hv,rfl⟩
  ·cases h
theorem ifcOf_ok {c:Gh} {x:AV} {v:Value} {t:TypeId} {y:AV} (h:Rd c x v) (hx:ifcOf x=some (t,y)):∃ u,v = .iface t u∧Rd c y u∧y.er=y:=by
 unfold ifcOf at hx
 split at hx
 ·obtain ⟨rfl,rfl⟩:=Prod.mk.inj (Option.some.inj hx)
  cases h with | dv x v h=>cases h with | ifc t x v h=>exact ⟨_,rfl,h.toAV,toAV_er _⟩
 ·split at hx
  ·rename_i h1
   obtain ⟨rfl,rfl⟩:=Prod.mk.inj (Option.some.inj hx)
   cases h;exact ⟨_,rfl,(ifcV_ok h1).1,(ifcV_ok (c:=c) h1).2⟩
  ·cases hx
 ·cases hx
def asrt (d t:TypeId) (y:AV):AV:=if d=t then .tup [y,.v (.bool true)] else .tup [.junk,.v (.bool false)]
theorem op_assert (h:R E st a w) (x:Operand) (xt t:TypeId) (ho:o.op = .typeAssert x xt t true) {i:TyI} (ht:TyOk E.P t i) (hi:i.np=true) {d:TypeId} {y:AV} (hx:ifcOf (st.ev x)=some (d,y)):Yields E o (st.put o.dst (asrt d t y)) a w:=by
 obtain ⟨c,h1,h2,h3,h4,h5,h6⟩:=h.get x
 obtain ⟨u,h7,h8,_⟩:=ifcOf_ok h6 hx
 obtain ⟨q,z,dd,e1,e2,e3,e4,e5,_⟩:=ht.inf
 obtain ⟨dd',hu,hd⟩:=ht.np hi
 have hrun:(Instr.typeAssert (.iface d u) xt t true).run E.P w = .ok (if d=t then .tuple #[u,.bool true] else .tuple #[z,.bool false]) w:=by
  unfold Instr.typeAssert
  simp only [Sem.run_bind,run_underlying hu,Result.andThen_ok]
  cases dd'<;>first | (cases hd;done) | (by_cases hdt:d=t<;>simp [hdt,zeroValue,typeInfo,e1,e3])
 refine ⟨_,w,?_,R.put h1 h2 h3 h4 h5 (v:=if d=t then .tuple #[u,.bool true] else .tuple #[z,.bool false]) ?_⟩
 ·unfold execOp;rw [ho]
  simp [h7,hrun]
 ·unfold asrt
  split
  ·refine .tup _ _ rfl fun j x hx=>?_
   match j,hx with
   | 0,hx=>obtain rfl:=Option.some.inj hx;exact h8
   | 1,hx=>obtain rfl:=Option.some.inj hx;exact .v _ rfl
  ·refine .tup _ _ rfl fun j x hx=>?_
   match j,hx with
   | 0,hx=>obtain rfl:=Option.some.inj hx;exact .junk _
   | 1,hx=>obtain rfl:=Option.some.inj hx;exact .v _ rfl
theorem op_build0 (h:R E st a w) (t:TypeId) (parts:Array (Nat × Operand)) (hp:parts.toList=[]) (ho:o.op = .build t parts) {i:TyI} (ht:TyOk E.P t i) (hi:i.emp=true):Yields E o (st.put o.dst (.agg [])) a w:=by
 obtain ⟨c,h1,h2,h3,h4,h5⟩:=h
 obtain ⟨q,z,dd,e1,e2,e3,e4,e5,_⟩:=ht.inf
 obtain ⟨hu,hs⟩:=ht.em hi
 have hz:z.cells = #[]:=by rw [hs] at e5;exact Array.eq_empty_of_size_eq_zero e5
 have hpe:parts = #[]:=by apply Array.ext';simpa using hp
 refine ⟨.agg #[],w,?_,R.put h1 h2 h3 h4 h5 (.agg [] _ rfl fun j x hx=>by simp at hx)⟩
 have hb:E.P.built t ((parts.map fun (i,x)=>(i,a.eval x)).toList)=some #[]:=by
  subst hpe
  simp [Program.built,e1,hu,e3,Instr.fill,hz]
 unfold execOp;rw [ho]
 simp [run_build w t _ _ hb]
theorem op_invoke (h:R E st a w) (f:FuncId) (t:TypeId) (y:AV) (xo:Operand) (name:String) (args:Array Operand) (ats:Array TypeId) (ho:o.op = .call { callee:=.invoke xo name,args:=args,argTypes:=ats }) (hf:ifcOf (st.ev xo)=some (t,y)) (hm:∀ v w,(Go.method (E.P.types.size + Made.depth) t v name).run E.P w = .ok (f,v) w) (hc:Callable E.P f) {C:Con} (hv:Valid E.P f C) (hi:∀ w,GrownL E.w0 w (if E.draws then some E.g else none) E.L→C.inv w)
  (hdr:C.draws=true→E.draws=true) (hpre:C.pre (y::args.toList.map fun x=>(st.ev x).er)) (hcost:C.draws=true→st.rn + C.cost≤lim)
  {next:Act→World→Prop} {Q:Exit→Act→World→Prop} (hn:∀ r,C.post (y::args.toList.map fun x=>(st.ev x).er) r→∀ a' w',R E (st.called o.dst C r) a' w'→next a' w'):o.wp E.P a w next Q:=by
 obtain ⟨u,e1,e0⟩:∃ u,a.eval xo = .iface t u∧y.er=y:=by
  obtain ⟨c,h1,h2,h3,h4,h5,h6⟩:=h.get xo
  obtain ⟨u,h7,h8,h9⟩:=ifcOf_ok h6 hf;exact ⟨u,h7,h9⟩
 obtain ⟨fn,f1,f2,f3⟩:=hc
 refine op_callG h f (#[u]++args.map a.eval) ?_ (y::args.toList.map fun x=>(st.ev x).er) (by rw [Array.size_append,List.length_cons,List.length_map,Array.length_toList,Array.size_map];show 1 + _=_;omega) (fun c _ hx j x hj=>?_) (fun x hx=>?_) hv hi hdr hpre hcost hn
 ·unfold execOp;rw [ho]
  have e2:(#[Value.iface t u]++args.map a.eval)[0]? = some (.iface t u):=by rw [Array.getElem?_append_left (by show 0 < 1;omega)];rfl
  have e3:(#[Value.iface t u]++args.map a.eval).extract 1 (#[Value.iface t u]++args.map a.eval).size=args.map a.eval:=by
   apply Array.ext'
   simp only [Array.toList_extract,Array.toList_append,List.extract_eq_take_drop,Array.toList_map]
   simp [List.take_of_length_le]
  simp only [Sem.run_bind,resolve,e1,Sem.run_pure,Result.andThen_ok,invoke,e2,e3,callMethod,run_program,hm,callFunc,f1,f2,f3,Bool.false_eq_true,if_false]
 ·cases j with
  | zero =>
   obtain rfl:=Option.some.inj hj
   obtain ⟨u',h7,h8,_⟩:=ifcOf_ok (hx xo) hf
   rw [e1] at h7
   obtain ⟨_,rfl⟩:=Value.iface.inj h7
   have e3:(#[u]++args.map a.eval).getD 0 undef=u:=by
    simp only [Array.getD_eq_getD_getElem?]
    rw [Array.getElem?_append_left (by simp)]
    simp
   rw [e3];exact h8
  | succ j =>
   have:=args_rd hx args j x (by simpa using hj)
   have e3:(#[u]++args.map a.eval).getD (j + 1) undef=(args.map a.eval).getD j undef:=by
    simp only [Array.getD_eq_getD_getElem?]
    rw [Array.getElem?_append_right (by simp)]
    simp
   rw [e3];exact this
 ·rcases List.mem_cons.1 hx with rfl | hx
  ·exact e0
  ·exact args_er args x hx
theorem op_load_gl (h:R E st a w) (t:TypeId) (x:Operand) (ho:o.op = .load t x) {i:TyI} (ht:TyOk E.P t i) (hz:i.size=1) {g:Nat} (hx:st.ev x = .v (.pointer (some ⟨g,0,none⟩))) {u:Value} (hu:u.oneCell'=true) (hc:w.cell? ⟨g,0,none⟩=some u) (hag:i.agg=false) :
  Yields E o (st.put o.dst (.v u)) a w:=by
 obtain ⟨c,h1,h2,h3,h4,h5,h6⟩:=h.get x
 have e1:a.eval x = .pointer (some ⟨g,0,none⟩):=by rw [hx] at h6;generalize a.eval x=z at h6;cases h6;rfl
 refine ⟨_,w,?_,R.put h1 h2 h3 h4 h5 (.v u hu)⟩
 have hl:ldL i [AV.v u]=some (.v u):=by simp [ldL,hag]
 have:=run_loadVar_cells ht w g 0 (fun _=>u) (by omega) (fun k hk=>by
  have:k=0:=by omega
  subst this;exact hc)
 unfold execOp;rw [ho];simp [Instr.loadAt,Instr.sureAddr,e1,this,hag]
theorem op_makeIface (h:R E st a w) (t:TypeId) (x:Operand) (ho:o.op = .makeInterface t x) {i:TyI} (ht:TyOk E.P t i) (hi:i.np=true) {y:AV} (hy:ifcA t (st.ev x)=some y):Yields E o (st.put o.dst y) a w:=by
 obtain ⟨c,h1,h2,h3,h4,h5,h6⟩:=h.get x
 refine ⟨.iface t (a.eval x),w,?_,R.put h1 h2 h3 h4 h5 (ifcA_ok h6 hy)⟩
 unfold execOp;rw [ho]
 have hu:∃ d,E.P.underlying t=some d∧∀ ms,d≠.interface ms:=by
  obtain ⟨d,h1,h2⟩:=ht.np hi
  exact ⟨d,h1,fun ms e=>by subst e;cases h2⟩
 obtain ⟨d,hu,hd⟩:=hu
 have hrun:(Instr.makeInterface t (a.eval x)).run E.P w = .ok (.iface t (a.eval x)) w:=by
  unfold Instr.makeInterface
  simp only [Sem.run_bind,run_underlying hu,Result.andThen_ok]
  rfl
 simp [hrun]
theorem op_makeIfaceBox (h:R E st a w) {d off:Nat} (hL:∀ c,Good E st.m st.rn c→¬ E.L (c.β d)) (t:TypeId) (x:Operand) (ho:o.op = .makeInterface t x) {i:TyI} (ht:TyOk E.P t i) (hi:i.np=true) (hx:st.ev x = .loc d off) {ls:List AV} (hl:lkm d st.m=some ls) {ys:List DV} (hy:DV.ofAll ls=some ys) :
  Yields E o ((st.frz d ys).put o.dst (.dv (.ifc t (.ptr (ys.drop off))))) a w:=by
 have h':=h.frz (by obtain ⟨c,_,_,_,_,_,h6⟩:=h.get x;rw [hx] at h6;exact h6.loc0) hL hl hy
 have hx':(st.frz d ys).ev x = .el (ys.drop off):=by
  cases x with
  | tmp n =>
   have:lk n st.σ = .loc d off:=hx
   show lk n (frzσ d ys st.σ)=_
   rw [lk_frz,this];simp [AV.frz]
  | const v =>
   exfalso
   have:AV.ofVal v = .loc d off:=hx
   unfold AV.ofVal at this
   split at this
   ·cases this
   ·unfold leafOf at this;split at this<;>cases this
  | global g=>cases hx
  | func f=>cases hx
 exact op_makeIface h' t x ho ht hi (y:=.dv (.ifc t (.ptr (ys.drop off)))) (by rw [hx'];rfl)
def frzC:List Operand→St→Option St
 | [],st=>some st
 | x::l,st=>match st.ev x with
  | .loc d _=>match lkm d st.m with
   | some ls=>match DV.ofAll ls with
    | some ys=>frzC l (st.frz d ys)
    | none=>none
   | none=>none
  | _=>frzC l st
def capsL (ev:Operand→AV):List Operand→Option (List DV)
 | []=>some []
 | x::l=>match DV.ofAV (ev x),capsL ev l with
  | some y,some r=>some (y::r)
  | _,_=>none
theorem frzC_ok (hL:∀ b,¬ E.L b):∀ (l:List Operand) (st st':St),R E st a w→frzC l st=some st'→R E st' a w
 | [],st,st',h,e=>by obtain rfl:=Option.some.inj e;exact h
 | x::l,st,st',h,e=>by
  simp only [frzC] at e
  split at e
  ·rename_i d0 off0 hxe
   split at e
   ·rename_i ls hl
    split at e
    ·rename_i ys hy
     exact frzC_ok hL l _ st' (h.frz (by obtain ⟨c,_,_,_,_,_,h6⟩:=h.get x;rw [hxe] at h6;exact h6.loc0) (fun _ _=>hL _) hl hy) e
    ·cases e
   ·cases e
  ·exact frzC_ok hL l st st' h e
theorem capsL_ok {c:Gh} {a:Act} {st:St} (h:∀ x,Rd c (st.ev x) (a.eval x)):∀ (l:List Operand) (r:List DV),capsL st.ev l=some r→r.length=l.length∧∀ (j:Nat) (x:DV),r[j]? = some x→∃ y,l[j]? = some y∧RdD c.w c.S x (a.eval y)
 | [],r,e=>by obtain rfl:=Option.some.inj e;exact ⟨rfl,fun j x hx=>by simp at hx⟩
 | x::l,r,e=>by
  simp only [capsL] at e
  split at e
  ·rename_i y r' hy hr
   obtain rfl:=Option.some.inj e
   obtain ⟨i1,i2⟩:=capsL_ok h l r' hr
   refine ⟨by simp [i1],fun j z hz=>?_⟩
   match j,hz with
   | 0,hz=>obtain rfl:=Option.some.inj hz;exact ⟨x,rfl,(h x).ofAV hy⟩
   | j + 1,hz=>exact i2 j z (by simpa using hz)
  ·cases e
theorem op_makeFunc (h:R E st a w) (f:FuncId) (caps:Array Operand) (ho:o.op = .makeFunc (.func f) #[] caps) {r:List DV} (hr:capsL st.ev caps.toList=some r):Yields E o (st.put o.dst (.dv (.fn f r))) a w:=by
 obtain ⟨c,h1,h2,h3,h4,h5⟩:=h
 refine ⟨.func (.func f) #[] (caps.map a.eval),w,?_,R.put h1 h2 h3 h4 h5 (.dv _ _ ?_)⟩
 ·unfold execOp;rw [ho]
  simp [Instr.makeFunc]
 ·obtain ⟨i1,i2⟩:=capsL_ok (fun x=>R.ev h3 x) caps.toList r hr
  refine .fn f r _ (by simpa using i1.symm) fun j x hx=>?_
  obtain ⟨y,hy,hxy⟩:=i2 j x hx
  rw [Array.getElem?_toList] at hy
  have e:(caps.map a.eval).getD j undef=a.eval y:=by simp [Array.getD_eq_getD_getElem?,hy]
  rw [e];exact hxy
def zeroD:Value→DV
 | .slice none 0 0=>.sl []
 | u=>.v u
theorem rd_zeroD {w:World} {S:Nat→Nat→Prop} {u:Value} (h:u.oneCell'=true):RdD w S (zeroD u) u:=by
 unfold zeroD
 split
 ·exact .nil
 ·exact .v _ h
theorem op_makeSlice (h:R E st a w) (d:Nat) (hd:o.dst=some d) (t:TypeId) (x y:Operand) (ho:o.op = .makeSlice t x y) {i ie:TyI} (ht:TyOk E.P t i) {e:TypeId} (he:i.elem=some e) (hte:TyOk E.P e ie) {k k':IntKind} {n m:Int} (hx:st.ev x = .v (.int k n)) (hy:st.ev y = .v (.int k' m))
  (h0:0≤n) (h1:n≤m) (h2:m≤4294967296) (hz:(ie.zero.all fun u=>u.oneCell')=true):Yields E o ((st.strip d).put (some d) (.sl (some (d,0,e)) (List.replicate n.toNat (ie.zero.map zeroD)))) a w:=by
 obtain ⟨c,h1',h2',h3,h4,h5,h6⟩:=h.get x
 have h7:=R.ev h3 y
 have e1:a.eval x = .int k n:=by rw [hx] at h6;generalize a.eval x=z at h6;cases h6;rfl
 have e2:a.eval y = .int k' m:=by rw [hy] at h7;generalize a.eval y=z at h7;cases h7;rfl
 obtain ⟨q,z,dd,g1,g2,g3,g4,g5,g6,g7,g8⟩:=hte.inf
 have hbytes:(q.bytes:Int) * m≤281474976710656:=by
  have a1:(q.bytes:Int)≤32768:=by omega
  have a2:(q.bytes:Int) * m≤32768 * m:=Int.mul_le_mul_of_nonneg_right a1 (by omega)
  omega
 have hrun:=run_make w t e q z (ht.el e he) g1 g3 k k' n m h0 h1 hbytes (by omega)
 have hzl:z.cells.size=q.size:=by rw [g5,g2]
 have hmc:(madeCells z.cells (m.toNat * q.size)).size=m.toNat * q.size:=size_madeCells _ _
 refine ⟨.slice (some ⟨w.heap.size,0,none⟩) n.toNat m.toNat,w.alloc (.cells (madeCells z.cells (m.toNat * q.size)) e),?_,?_⟩
 rotate_left
 ·rw [hd]
  refine R.newrow h1' h2' h3 h4 h5 d w (.inl rfl) e q g1 (List.replicate n.toNat (ie.zero.map zeroD)) n.toNat m.toNat (madeCells z.cells (m.toNat * q.size)) (by simp) (by omega) (by unfold maxLen;omega) hmc (fun row hr=>?_) (fun p r row u hp hr=>?_)
  ·rw [List.eq_of_mem_replicate hr,List.length_map,← g4,g2];simpa using g5
  ·have hpl:p < n.toNat:=by have:=(List.getElem?_eq_some_iff.1 hp).1;simpa using this
   rw [List.getElem?_replicate,if_pos hpl] at hp
   obtain rfl:=Option.some.inj hp
   rw [List.getElem?_map,Option.map_eq_some_iff] at hr
   obtain ⟨v,hv,rfl⟩:=hr
   have hrl:r < ie.zero.length:=(List.getElem?_eq_some_iff.1 hv).1
   have hzs:ie.zero.length=q.size:=by rw [← g4,g2];simpa using g5
   have hlt:p * q.size + r < m.toNat * q.size:=by
    have:=Nat.mul_le_mul_right q.size (show p + 1≤m.toNat by omega)
    rw [Nat.add_mul] at this;omega
   have hval:(madeCells z.cells (m.toNat * q.size)).getD (p * q.size + r) undef=v:=by
    have hmod:(p * q.size + r) % z.cells.size=r:=by
     rw [hzl,Nat.add_comm,Nat.add_mul_mod_self_right,Nat.mod_eq_of_lt (by omega)]
    have hzr:z.cells[r]? = some v:=by rw [← Array.getElem?_toList,g4];exact hv
    have hrs:r < z.cells.size:=by omega
    have:z.cells[r]! = v:=by
     rw [getElem!_pos z.cells r hrs]
     rw [Array.getElem?_eq_getElem hrs] at hzr
     exact Option.some.inj hzr
    simp only [madeCells,Array.getD_eq_getD_getElem?,Array.getElem?_map]
    rw [Array.getElem?_range,if_pos hlt]
    simp only [Option.map_some,Option.getD_some,hmod]
    exact this
   rw [hval]
   have:=List.all_eq_true.1 hz v (List.mem_of_getElem? hv)
   exact rd_zeroD this
 ·unfold execOp;rw [ho]
  simp [e1,e2,hrun,hd]
end
end Go.Eng
end
