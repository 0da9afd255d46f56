/- YtpgilgnkiceggaaGreatDoorEb: part of the proof that laws hold, for every input that the row speaks of (no condition of ours). -/
import Derived.Test.YtpgilgnkiceggaaGreatDoorEa
import Derived.Deep.LoopGhost
import Derived.Laws.Cover3
import Derived.Orders
import Derived.Deep.Draws
import Derived.Sort.Grow
set_option linter.unusedVariables false
set_option linter.unusedSimpArgs false
section
namespace Go.Eng
open Go Go.RowKit
mutual
def AV.nt:AV→AV
 | .v x=>.v x
 | .nl=>.nl
 | .sl _ els=>.sl none els
 | .agg ls=>.agg (AV.ntAll ls)
 | .tup ls=>.tup (AV.ntAll ls)
 | .loc d o=>.loc d o
 | .xs d o n cap sz=>.xs d o n cap sz
 | .el ls=>.el ls
 | .rd=>.junk
 | .dv x=>.dv x
 | .mr d=>.mr d
 | .mb t=>.mb t
 | .junk=>.junk
def AV.ntAll:List AV→List AV
 | []=>[]
 | x::l=>x.nt::AV.ntAll l
end
theorem ntAll_eq (ls:List AV):AV.ntAll ls=ls.map AV.nt:=by
 induction ls with
 | nil=>rfl
 | cons x l ih=>simp [AV.ntAll,ih]
theorem Rd.nt {c c':Gh} (hk:Keeps c.w c.S c'.w c'.S) (hβ:c'.β=c.β) {x:AV} {v:Value} (h:Rd c x v):Rd c' x.nt v:=by
 induction h with
 | v x h=>exact .v x h
 | junk x=>exact .junk x
 | nl=>exact .nl
 | rd=>exact .junk _
 | dv x v h=>exact .dv x v (h.keep hk)
 | loc k off hb=>rw [← hβ];exact .loc _ _ hb
 | mr1 k hb=>rw [← hβ];exact .mr1 _ hb
 | mr2 k hb=>rw [← hβ];exact .mr2 _ hb
 | mb t=>exact .mb t
 | xs k off n cap sz hc hb=>rw [← hβ];exact .xs _ _ _ _ _ hc hb
 | sl tok els v h ht=>exact .sl none els v (h.keep hk) trivial
 | agg ls cs hn _ ih =>
  simp only [AV.nt,ntAll_eq]
  refine .agg _ cs (by simpa using hn) fun j x hx=>?_
  obtain ⟨y,hy,rfl⟩:=by simpa using hx
  exact ih j y hy
 | tup ls cs hn _ ih =>
  simp only [AV.nt,ntAll_eq]
  refine .tup _ cs (by simpa using hn) fun j x hx=>?_
  obtain ⟨y,hy,rfl⟩:=by simpa using hx
  exact ih j y hy
 | el ls b off f hc hh=>exact .el ls b off f (fun k hkk=>hk.1 _ _ _ (hc k hkk).1 (hc k hkk).2) (fun j x hx=>(hh j x hx).keep hk)
def ntσ:List (Nat × AV)→List (Nat × AV)
 | []=>[]
 | (y,v)::l=>(y,v.nt)::ntσ l
def ntm:List (Nat × List AV)→List (Nat × List AV)
 | []=>[]
 | (y,v)::l=>(y,AV.ntAll v)::ntm l
theorem lk_nt (x:Nat) (l:List (Nat × AV)):lk x (ntσ l)=(lk x l).nt:=by
 induction l with
 | nil=>rfl
 | cons p l ih=>obtain ⟨y,v⟩:=p;simp only [ntσ,lk];split<;>simp [ih]
theorem lkm_nt (x:Nat) (l:List (Nat × List AV)):lkm x (ntm l)=(lkm x l).map AV.ntAll:=by
 induction l with
 | nil=>rfl
 | cons p l ih=>obtain ⟨y,v⟩:=p;simp only [ntm,lkm];split<;>simp [ih]
/- names are turned,owners and the reader are forgotten -/
mutual
def AV.mvn (f:Nat→Option Nat):AV→AV
 | .v x=>.v x
 | .nl=>.nl
 | .sl _ els=>.sl none els
 | .agg ls=>.agg (AV.mvnAll f ls)
 | .tup ls=>.tup (AV.mvnAll f ls)
 | .loc d o=>match f d with | some k=>.loc k o | none=>.junk
 | .xs d o n cap sz=>match f d with | some k=>.xs k o n cap sz | none=>.junk
 | .el ls=>.el ls
 | .rd=>.junk
 | .dv x=>.dv x
 | .mr d=>match f d with | some k=>.mr k | none=>.junk
 | .mb t=>.mb t
 | .junk=>.junk
def AV.mvnAll (f:Nat→Option Nat):List AV→List AV
 | []=>[]
 | x::l=>x.mvn f::AV.mvnAll f l
end
theorem mvnAll_eq (f:Nat→Option Nat) (ls:List AV):AV.mvnAll f ls=ls.map (AV.mvn f):=by
 induction ls with
 | nil=>rfl
 | cons x l ih=>simp [AV.mvnAll,ih]
theorem Rd.mvn {c c':Gh} (f:Nat→Option Nat) (hk:Keeps c.w c.S c'.w c'.S) (hβ:∀ k k',f k=some k'→c'.β k'=c.β k∧bk k'=bk k) {x:AV} {v:Value} (h:Rd c x v):Rd c' (x.mvn f) v:=by
 induction h with
 | v x h=>exact .v x h
 | junk x=>exact .junk x
 | nl=>exact .nl
 | rd=>exact .junk _
 | dv x v h=>exact .dv x v (h.keep hk)
 | loc k off hb =>
  simp only [AV.mvn]
  split
  ·rename_i k' e;rw [← (hβ k k' e).1];exact .loc _ _ ((hβ k k' e).2.trans hb)
  ·exact .junk _
 | mr1 k hb =>
  simp only [AV.mvn]
  split
  ·rename_i k' e;rw [← (hβ k k' e).1];exact .mr1 _ ((hβ k k' e).2.trans hb)
  ·exact .junk _
 | mr2 k hb =>
  simp only [AV.mvn]
  split
  ·rename_i k' e;rw [← (hβ k k' e).1];exact .mr2 _ ((hβ k k' e).2.trans hb)
  ·exact .junk _
 | mb t=>exact .mb t
 | xs k off n cap sz hc hb =>
  simp only [AV.mvn]
  split
  ·rename_i k' e;rw [← (hβ k k' e).1];exact .xs _ _ _ _ _ hc ((hβ k k' e).2.trans hb)
  ·exact .junk _
 | sl tok els v h ht=>exact .sl none els v (h.keep hk) trivial
 | agg ls cs hn _ ih =>
  simp only [AV.mvn,mvnAll_eq]
  refine .agg _ cs (by simpa using hn) fun j x hx=>?_
  obtain ⟨y,hy,rfl⟩:=by simpa using hx
  exact ih j y hy
 | tup ls cs hn _ ih =>
  simp only [AV.mvn,mvnAll_eq]
  refine .tup _ cs (by simpa using hn) fun j x hx=>?_
  obtain ⟨y,hy,rfl⟩:=by simpa using hx
  exact ih j y hy
 | el ls b off f hc hh=>exact .el ls b off f (fun k hkk=>hk.1 _ _ _ (hc k hkk).1 (hc k hkk).2) (fun j x hx=>(hh j x hx).keep hk)
mutual
theorem mvn_nt (f:Nat→Option Nat):∀ x:AV,(x.mvn f).nt=x.mvn f
 | .v _=>rfl
 | .nl=>rfl
 | .sl _ _=>rfl
 | .agg ls=>by simp only [AV.mvn,AV.nt,mvnAll_nt f ls]
 | .tup ls=>by simp only [AV.mvn,AV.nt,mvnAll_nt f ls]
 | .loc d o=>by simp only [AV.mvn];split<;>rfl
 | .xs d o n cap sz=>by simp only [AV.mvn];split<;>rfl
 | .el _=>rfl
 | .rd=>rfl
 | .dv _=>rfl
 | .mr d=>by simp only [AV.mvn];split<;>rfl
 | .mb _=>rfl
 | .junk=>rfl
theorem mvnAll_nt (f:Nat→Option Nat):∀ l:List AV,AV.ntAll (AV.mvnAll f l)=AV.mvnAll f l
 | []=>rfl
 | x::l=>by simp only [AV.mvnAll,AV.ntAll,mvn_nt f x,mvnAll_nt f l]
end
/- names of F are struck -/
mutual
def AV.stripF (F:Nat→Bool):AV→AV
 | .v x=>.v x
 | .nl=>.nl
 | .sl t els=>.sl t els
 | .agg ls=>.agg (AV.stripFAll F ls)
 | .tup ls=>.tup (AV.stripFAll F ls)
 | .loc k off=>if F k then .junk else .loc k off
 | .xs k off n cap sz=>if F k then .junk else .xs k off n cap sz
 | .el ls=>.el ls
 | .rd=>.rd
 | .dv x=>.dv x
 | .mr k=>if F k then .junk else .mr k
 | .mb t=>.mb t
 | .junk=>.junk
def AV.stripFAll (F:Nat→Bool):List AV→List AV
 | []=>[]
 | x::l=>x.stripF F::AV.stripFAll F l
end
theorem stripFAll_eq (F:Nat→Bool) (ls:List AV):AV.stripFAll F ls=ls.map (AV.stripF F):=by
 induction ls with
 | nil=>rfl
 | cons x l ih=>simp [AV.stripFAll,ih]
theorem Rd.stripF {c c':Gh} {F:Nat→Bool} (hk:Keeps c.w c.S c'.w c'.S) (hg:c'.g=c.g) (hβ:∀ k,F k=false→c'.β k=c.β k) (htv:c'.tv=c.tv) (hte:c'.te=c.te) {x:AV} {v:Value} (h:Rd c x v):Rd c' (x.stripF F) v:=by
 induction h with
 | v x h=>exact .v x h
 | junk x=>exact .junk x
 | nl=>exact .nl
 | rd=>simp only [AV.stripF];rw [← hg];exact .rd
 | dv x v h=>exact .dv x v (h.keep hk)
 | loc k off hb =>
  simp only [AV.stripF]
  split
  ·exact .junk _
  ·rename_i hne;rw [← hβ k (by simpa using hne)];exact .loc k off hb
 | mr1 k hb =>
  simp only [AV.stripF]
  split
  ·exact .junk _
  ·rename_i hne;rw [← hβ k (by simpa using hne)];exact .mr1 k hb
 | mr2 k hb =>
  simp only [AV.stripF]
  split
  ·exact .junk _
  ·rename_i hne;rw [← hβ k (by simpa using hne)];exact .mr2 k hb
 | mb t=>exact .mb t
 | xs k off n cap sz hc hb =>
  simp only [AV.stripF]
  split
  ·exact .junk _
  ·rename_i hne;rw [← hβ k (by simpa using hne)];exact .xs k off n cap sz hc hb
 | sl tok els v h ht =>
  refine .sl _ els v (h.keep hk) ?_
  unfold TokC at *
  split
  ·trivial
  ·simp only [htv,hte] at *;exact ht
 | agg ls cs hn _ ih =>
  simp only [AV.stripF,stripFAll_eq]
  refine .agg _ cs (by simpa using hn) fun j x hx=>?_
  obtain ⟨y,hy,rfl⟩:=by simpa using hx
  exact ih j y hy
 | tup ls cs hn _ ih =>
  simp only [AV.stripF,stripFAll_eq]
  refine .tup _ cs (by simpa using hn) fun j x hx=>?_
  obtain ⟨y,hy,rfl⟩:=by simpa using hx
  exact ih j y hy
 | el ls b off f hc hh=>exact .el ls b off f (fun k hkk=>hk.1 _ _ _ (hc k hkk).1 (hc k hkk).2) (fun j x hx=>(hh j x hx).keep hk)
def stripFσ (F:Nat→Bool):List (Nat × AV)→List (Nat × AV)
 | []=>[]
 | (y,v)::l=>(y,v.stripF F)::stripFσ F l
def stripFm (F:Nat→Bool):List (Nat × List AV)→List (Nat × List AV)
 | []=>[]
 | (y,v)::l=>(y,AV.stripFAll F v)::stripFm F l
theorem lk_stripF (F:Nat→Bool) (x:Nat) (l:List (Nat × AV)):lk x (stripFσ F l)=(lk x l).stripF F:=by
 induction l with
 | nil=>rfl
 | cons p l ih=>obtain ⟨y,v⟩:=p;simp only [stripFσ,lk];split<;>simp [ih]
theorem lkm_stripF (F:Nat→Bool) (x:Nat) (l:List (Nat × List AV)):lkm x (stripFm F l)=(lkm x l).map (AV.stripFAll F):=by
 induction l with
 | nil=>rfl
 | cons p l ih=>obtain ⟨y,v⟩:=p;simp only [stripFm,lkm];split<;>simp [ih]
/-- boxes without those of F -/
def remF (F:Nat→Bool):List (Nat × List AV)→List (Nat × List AV)
 | []=>[]
 | (y,v)::l=>if F y then remF F l else (y,v)::remF F l
theorem lkm_remF (F:Nat→Bool) (x:Nat) (l:List (Nat × List AV)):lkm x (remF F l)=if F x then none else lkm x l:=by
 induction l with
 | nil=>simp [remF,lkm]
 | cons p l ih =>
  obtain ⟨y,v⟩:=p
  simp only [remF]
  by_cases hy:F y=true
  ·rw [if_pos hy,ih]
   by_cases hx:F x=true
   ·rw [if_pos hx,if_pos hx]
   ·rw [if_neg hx,if_neg hx]
    have:x≠y:=fun e=>hx (e ▸ hy)
    simp [lkm,this]
  ·rw [if_neg hy]
   simp only [lkm]
   by_cases hxy:x=y
   ·subst hxy;rw [if_pos rfl,if_neg hy,if_pos rfl]
   ·rw [if_neg hxy,ih,if_neg hxy]
/-- lists of names -/
def nlk (x:Nat):List (Nat × Nat)→Option Nat
 | []=>none
 | (a,b)::l=>if x=a then some b else nlk x l
def nlkR (x:Nat):List (Nat × Nat)→Option Nat
 | []=>none
 | (a,b)::l=>if x=b then some a else nlkR x l
def hasR (x:Nat):List (Nat × Nat)→Bool
 | []=>false
 | (_,b)::l=>if x=b then true else hasR x l
/-- contract names,then the caller's: all different;lent ones from 1000 on,new ones below -/
structure NamesOk (ρ φ:List (Nat × Nat)):Prop where
 lent:∀ cn k,nlk cn ρ=some k→1000≤cn
 new:∀ fn k,nlk fn φ=some k→fn < 1000∧k < 1000
 inv:∀ cn k,nlk cn (ρ++φ)=some k↔nlkR k (ρ++φ)=some cn
 part:∀ cn k,nlk cn (ρ++φ)=some k↔(nlk cn ρ=some k∨nlk cn φ=some k)
 sep:∀ k,hasR k ρ=true→hasR k φ=false
 hρ:∀ k,hasR k ρ=true↔∃ cn,nlk cn ρ=some k
 hφ:∀ k,hasR k φ=true↔∃ fn,nlk fn φ=some k
 hb:∀ cn k,nlk cn (ρ++φ)=some k→bk cn=bk k
theorem nlk_mem {x y:Nat}:∀ {l:List (Nat × Nat)},nlk x l=some y→(x,y) ∈ l
 | [],h=>by cases h
 | (a,b)::l,h=>by
  simp only [nlk] at h
  split at h
  ·rename_i e;subst e;obtain rfl:=Option.some.inj h;simp
  ·exact List.mem_cons_of_mem _ (nlk_mem h)
theorem mem_nlk {x y:Nat}:∀ {l:List (Nat × Nat)},(l.map (·.1)).Nodup→(x,y) ∈ l→nlk x l=some y
 | [],_,h=>by cases h
 | (a,b)::l,hn,h=>by
  simp only [List.map_cons,List.nodup_cons] at hn
  simp only [nlk]
  rcases List.mem_cons.1 h with h | h
  ·cases h;rw [if_pos rfl]
  ·have:x≠a:=fun e=>hn.1 (e ▸ List.mem_map.2 ⟨_,h,rfl⟩)
   rw [if_neg this];exact mem_nlk hn.2 h
theorem nlkR_mem {x y:Nat}:∀ {l:List (Nat × Nat)},nlkR y l=some x→(x,y) ∈ l
 | [],h=>by cases h
 | (a,b)::l,h=>by
  simp only [nlkR] at h
  split at h
  ·rename_i e;subst e;obtain rfl:=Option.some.inj h;simp
  ·exact List.mem_cons_of_mem _ (nlkR_mem h)
theorem mem_nlkR {x y:Nat}:∀ {l:List (Nat × Nat)},(l.map (·.2)).Nodup→(x,y) ∈ l→nlkR y l=some x
 | [],_,h=>by cases h
 | (a,b)::l,hn,h=>by
  simp only [List.map_cons,List.nodup_cons] at hn
  simp only [nlkR]
  rcases List.mem_cons.1 h with h | h
  ·cases h;rw [if_pos rfl]
  ·have:y≠b:=fun e=>hn.1 (e ▸ List.mem_map.2 ⟨_,h,rfl⟩)
   rw [if_neg this];exact mem_nlkR hn.2 h
theorem hasR_iff {k:Nat}:∀ {l:List (Nat × Nat)},hasR k l=true↔∃ x,(x,k) ∈ l
 | []=>by simp [hasR]
 | (a,b)::l=>by
  simp only [hasR]
  split
  ·rename_i e;subst e;simp only [true_iff];exact ⟨a,by simp⟩
  ·rename_i e
   rw [hasR_iff]
   constructor
   ·rintro ⟨x,h⟩;exact ⟨x,List.mem_cons_of_mem _ h⟩
   ·rintro ⟨x,h⟩
    rcases List.mem_cons.1 h with h | h
    ·cases h;exact absurd rfl e
    ·exact ⟨x,h⟩
/-- what is asked of names,to be decided -/
def okN (ρ φ:List (Nat × Nat)):Prop:=((ρ++φ).map (·.1)).Nodup∧((ρ++φ).map (·.2)).Nodup∧(∀ p ∈ ρ,1000≤p.1)∧(∀ p ∈ φ,p.1 < 1000∧p.2 < 1000)∧∀ p ∈ ρ++φ,bk p.1=bk p.2
instance (ρ φ:List (Nat × Nat)):Decidable (okN ρ φ):=by unfold okN;infer_instance
theorem okN.names {ρ φ:List (Nat × Nat)} (h:okN ρ φ):NamesOk ρ φ∧∀ cn k,(cn,k) ∈ ρ++φ→nlk cn (ρ++φ)=some k:=by
 obtain ⟨h1,h2,h3,h4,h5⟩:=h
 have h1ρ:(ρ.map (·.1)).Nodup:=by rw [List.map_append] at h1;exact (List.nodup_append.1 h1).1
 have h1φ:(φ.map (·.1)).Nodup:=by rw [List.map_append] at h1;exact (List.nodup_append.1 h1).2.1
 refine ⟨⟨fun cn k h=>h3 _ (nlk_mem h),fun fn k h=>h4 _ (nlk_mem h),fun cn k=>⟨fun h=>mem_nlkR h2 (nlk_mem h),fun h=>mem_nlk h1 (nlkR_mem h)⟩,fun cn k=>⟨fun h=>?_,fun h=>?_⟩,fun k hk=>?_,fun k=>?_,fun k=>?_,fun cn k h=>h5 _ (nlk_mem h)⟩,fun cn k h=>mem_nlk h1 h⟩
 ·rcases List.mem_append.1 (nlk_mem h) with h | h
  ·exact .inl (mem_nlk h1ρ h)
  ·exact .inr (mem_nlk h1φ h)
 ·rcases h with h | h
  ·exact mem_nlk h1 (List.mem_append_left _ (nlk_mem h))
  ·exact mem_nlk h1 (List.mem_append_right _ (nlk_mem h))
 ·obtain ⟨x,hx⟩:=hasR_iff.1 hk
  cases hh:hasR k φ
  ·rfl
  ·obtain ⟨y,hy⟩:=hasR_iff.1 hh
   rw [List.map_append] at h2
   exact absurd rfl ((List.nodup_append.1 h2).2.2 k (List.mem_map.2 ⟨_,hx,rfl⟩) k (List.mem_map.2 ⟨_,hy,rfl⟩))
 ·rw [hasR_iff]
  exact ⟨fun ⟨x,h⟩=>⟨x,mem_nlk h1ρ h⟩,fun ⟨x,h⟩=>⟨x,nlk_mem h⟩⟩
 ·rw [hasR_iff]
  exact ⟨fun ⟨x,h⟩=>⟨x,mem_nlk h1φ h⟩,fun ⟨x,h⟩=>⟨x,nlk_mem h⟩⟩
/-- contracts over boxes -/
structure ConM where
 pre:List AV→List (Nat × List AV)→Prop
 post:List AV→List (Nat × List AV)→AV→List (Nat × List AV)→Prop
 inv:World→Prop:=fun _=>True
structure OutM (P:Program) (c:Gh) (m1 m2:List (Nat × List AV)) (r:AV) (v:Value) (w':World) (c':Gh):Prop where
 w:c'.w=w'
 rd:Rd c' r v
 fr:GrownL c.w w' none (fun b=>∃ d ls,lkm d m1=some ls∧c.β d=b)
 S:∀ b o,c'.S b o→c.w.heap.size≤b∨c.S b o
 sx:∀ b o,c'.S b o→Lk c'.w b o
 s1:∀ b o v,c'.S b o→c'.w.cell? ⟨b,o,none⟩=some v→v.oneCell'=true
 box:∀ d ls,lkm d m2=some ls→BoxOk c.w.heap.size (fun b=>∃ d ls,lkm d m1=some ls∧c.β d=b) c' d ls
 boxinj:∀ d d' ls ls',lkm d m2=some ls→lkm d' m2=some ls'→c'.β d=c'.β d'→d=d'
 bl:∀ k,1000≤k→c'.β k=c.β k
def ValidM (P:Program) (f:FuncId) (C:ConM):Prop :=
 ∀ (c:Gh) (args:List AV) (m1:List (Nat × List AV)) (vs:Array Value),vs.size=args.length→(∀ j x,args[j]? = some x→Rd c x (vs.getD j undef))→(∀ x ∈ args,x.nt=x)→C.pre args m1→C.inv c.w→
  (∀ b o,c.S b o→Lk c.w b o)→(∀ b o v,c.S b o→c.w.cell? ⟨b,o,none⟩=some v→v.oneCell'=true)→
  (∀ d ls,lkm d m1=some ls→1000≤d∧AV.ntAll ls=ls∧∃ cs,∃ T:BoxOb d cs,c.w.heap[c.β d]? = some T.1∧cs.size=ls.length∧(∀ j x,ls[j]? = some x→Rd c x (cs.getD j undef))∧∀ o,¬ c.S (c.β d) o)→
  (∀ d d' ls ls',lkm d m1=some ls→lkm d' m1=some ls'→c.β d=c.β d'→d=d')→
  Calls P f vs c.w fun e w'=>∃ v r m2 c',e = .returned v∧C.post args m1 r m2∧OutM P c m1 m2 r v w' c'
/-- the boxes that are lent,under the contract's names -/
def lentM (f:Nat→Option Nat) (m:List (Nat × List AV)):List (Nat × Nat)→Option (List (Nat × List AV))
 | []=>some []
 | (cn,k)::l=>match lkm k m,lentM f m l with
  | some ls,some r=>some ((cn,AV.mvnAll f ls)::r)
  | _,_=>none
theorem lentM_get {f:Nat→Option Nat} {m:List (Nat × List AV)}:∀ {ρ:List (Nat × Nat)} {m1:List (Nat × List AV)},lentM f m ρ=some m1→∀ cn ls,lkm cn m1=some ls→∃ k ls0,nlk cn ρ=some k∧lkm k m=some ls0∧ls=AV.mvnAll f ls0
 | [],m1,h,cn,ls,hl=>by obtain rfl:=Option.some.inj h;simp [lkm] at hl
 | (a,b)::l,m1,h,cn,ls,hl=>by
  simp only [lentM] at h
  split at h
  ·rename_i ls0 r h0 hr
   obtain rfl:=Option.some.inj h
   simp only [lkm] at hl
   by_cases e:cn=a
   ·rw [if_pos e] at hl
    obtain rfl:=Option.some.inj hl
    exact ⟨b,ls0,by simp [nlk,e],h0,rfl⟩
   ·rw [if_neg e] at hl
    obtain ⟨k,l1,h1,h2,h3⟩:=lentM_get hr cn ls hl
    exact ⟨k,l1,by simp [nlk,e,h1],h2,h3⟩
  ·cases h
theorem lentM_has {f:Nat→Option Nat} {m:List (Nat × List AV)}:∀ {ρ:List (Nat × Nat)} {m1:List (Nat × List AV)},lentM f m ρ=some m1→∀ cn k,nlk cn ρ=some k→∃ ls0,lkm k m=some ls0∧∃ ls,lkm cn m1=some ls
 | [],m1,h,cn,k,hk=>by simp [nlk] at hk
 | (a,b)::l,m1,h,cn,k,hk=>by
  simp only [lentM] at h
  split at h
  ·rename_i ls0 r h0 hr
   obtain rfl:=Option.some.inj h
   simp only [nlk] at hk
   by_cases e:cn=a
   ·rw [if_pos e] at hk
    obtain rfl:=Option.some.inj hk
    exact ⟨ls0,h0,AV.mvnAll f ls0,by simp [lkm,e]⟩
   ·rw [if_neg e] at hk
    obtain ⟨l1,h1,l2,h2⟩:=lentM_has hr cn k hk
    exact ⟨l1,h1,l2,by simp [lkm,e,h2]⟩
  ·cases h
/-- boxes that come back,under the caller's names -/
def backM (f:Nat→Option Nat) (m2:List (Nat × List AV)) (m:List (Nat × List AV)):List (Nat × Nat)→List (Nat × List AV)
 | []=>m
 | (cn,k)::l=>match lkm cn m2 with
  | some ls=>(k,AV.mvnAll f ls)::backM f m2 m l
  | none=>backM f m2 m l
theorem backM_get {f:Nat→Option Nat} {m2 m:List (Nat × List AV)}:∀ {ns:List (Nat × Nat)} (k:Nat) (ls:List AV),lkm k (backM f m2 m ns)=some ls→(∃ cn ls0,(cn,k) ∈ ns∧lkm cn m2=some ls0∧ls=AV.mvnAll f ls0)∨lkm k m=some ls
 | [],k,ls,h=>.inr h
 | (a,b)::l,k,ls,h=>by
  simp only [backM] at h
  split at h
  ·rename_i ls0 h0
   simp only [lkm] at h
   split at h
   ·rename_i e
    obtain rfl:=Option.some.inj h
    exact .inl ⟨a,ls0,by simp [e],h0,rfl⟩
   ·rcases backM_get k ls h with ⟨cn,l0,h1,h2⟩ | h1
    ·exact .inl ⟨cn,l0,by simp [h1],h2⟩
    ·exact .inr h1
  ·rcases backM_get k ls h with ⟨cn,l0,h1,h2⟩ | h1
   ·exact .inl ⟨cn,l0,by simp [h1],h2⟩
   ·exact .inr h1
def St.calledM (st:St) (ρ φ:List (Nat × Nat)) (m2:List (Nat × List AV)) (r:AV) (dst:Option Nat):St :=
 St.put { nt:=st.nt,σ:=stripFσ (fun k=>hasR k φ) st.σ,m:=backM (fun cn=>nlk cn (ρ++φ)) m2 (remF (fun k=>hasR k (ρ++φ)) (stripFm (fun k=>hasR k φ) st.m)) (ρ++φ),rn:=st.rn } dst (r.mvn fun cn=>nlk cn (ρ++φ))
section
variable {E:En} {st:St} {a:Act} {w:World} {o:Oper}
theorem op_callM (h : R E st a w) (f : FuncId) (fo : Operand) (args : Array Operand) (ats : Array TypeId) (ho : o.op = .call { callee := .value fo, args := args, argTypes := ats }) (hf : st.ev fo = .v (.func (.func f) #[] #[])) (hc : Callable E.P f) {C : ConM} (hv : ValidM E.P f C)
    (hi : ∀ w, GrownL E.w0 w (if E.draws then some E.g else none) E.L → C.inv w) {ρ φ : List (Nat × Nat)} (hn : NamesOk ρ φ) (hmem : ∀ cn k, (cn, k) ∈ ρ ++ φ → nlk cn (ρ ++ φ) = some k)
    {m1 : List (Nat × List AV)} (hm1 : lentM (fun k => nlkR k ρ) st.m ρ = some m1) (hpre : C.pre (args.toList.map fun x => (st.ev x).mvn fun k => nlkR k ρ) m1)
    {next : Act → World → Prop} {Q : Exit → Act → World → Prop} (hnx : ∀ r m2, C.post (args.toList.map fun x => (st.ev x).mvn fun k => nlkR k ρ) m1 r m2 → ∀ a' w', R E (st.calledM ρ φ m2 r o.dst) a' w' → next a' w') : o.wp E.P a w next Q := by
  have e1 : a.eval fo = .func (.func f) #[] #[] := by
    obtain ⟨c, h1, h2, h3, h4, h5, h6⟩ := h.get fo
    rw [hf] at h6; generalize a.eval fo = u at h6; cases h6; rfl
  obtain ⟨fn, f1, f2, f3⟩ := hc
  have hr : (execOp a.eval o).run E.P w = .ok (.enter f (args.map a.eval)) w := by
    unfold execOp; rw [ho]
    simp only [Sem.run_bind, resolve, e1, Deferred.ofValue, Sem.run_pure, Result.andThen_ok, invoke, callFunc, run_program]
    simp only [Array.empty_append, Array.append_empty, f1, f2, f3, Bool.false_eq_true, if_false, Sem.run_pure]
  obtain ⟨c, h1, G, hσ, h4, h5⟩ := h
  subst h1
  unfold Oper.wp
  rw [hr]
  show Calls E.P f (args.map a.eval) c.w _
  -- names in ρ alone
  have ρinv : ∀ cn k, nlkR k ρ = some cn → nlk cn ρ = some k := fun cn k h => by
    have hk : hasR k ρ = true := by
      clear hm1 hpre hnx hmem hn
      induction ρ with
      | nil => simp [nlkR] at h
      | cons p l ih =>
        obtain ⟨x, y⟩ := p
        simp only [nlkR, hasR] at *
        split
        · rfl
        · rename_i e; rw [if_neg e] at h; exact ih h
    have h2 : nlkR k (ρ ++ φ) = some cn := by
      clear hm1 hpre hnx hmem hn hk
      induction ρ with
      | nil => simp [nlkR] at h
      | cons p l ih =>
        obtain ⟨x, y⟩ := p
        simp only [nlkR, List.cons_append] at *
        split
        · rename_i e; rw [if_pos e] at h; exact h
        · rename_i e; rw [if_neg e] at h; exact ih h
    rcases (hn.part cn k).1 ((hn.inv cn k).2 h2) with h3 | h3
    · exact h3
    · have := hn.sep k hk
      rw [(hn.hφ k).2 ⟨cn, h3⟩] at this; cases this
  let β1 : Nat → Nat := fun cn => match nlk cn ρ with | some k => c.β k | none => c.β cn
  let c1 : Gh := { c with β := β1 }
  have hkc : Keeps c.w c.S c1.w c1.S := Keeps.same (fun _ _ h => h) fun _ _ _ => rfl
  have hβ1 : ∀ k cn, nlkR k ρ = some cn → c1.β cn = c.β k := fun k cn h => by
    show (match nlk cn ρ with | some k => c.β k | none => c.β cn) = _
    rw [ρinv cn k h]
  have hbρ : ∀ k cn, nlk cn ρ = some k → bk cn = bk k := fun k cn h => hn.hb cn k ((hn.part cn k).2 (.inl h))
  have hlend : ∀ {x v}, Rd c x v → Rd c1 (x.mvn fun k => nlkR k ρ) v := fun h => h.mvn _ hkc (fun k cn h => ⟨hβ1 k cn h, hbρ k cn (ρinv cn k h)⟩)
  have hm1get : ∀ cn ls, lkm cn m1 = some ls → ∃ k ls0, nlk cn ρ = some k ∧ lkm k st.m = some ls0 ∧ ls = AV.mvnAll (fun k => nlkR k ρ) ls0 ∧ c1.β cn = c.β k := fun cn ls hl => by
    obtain ⟨k, ls0, q1, q2, q3⟩ := lentM_get hm1 cn ls hl
    refine ⟨k, ls0, q1, q2, q3, ?_⟩
    show (match nlk cn ρ with | some k => c.β k | none => c.β cn) = _
    rw [q1]
  have hlentblk : ∀ b, (∃ d ls, lkm d m1 = some ls ∧ c1.β d = b) ↔ ∃ k, hasR k ρ = true ∧ c.β k = b := fun b => by
    constructor
    · rintro ⟨d, ls, hl, rfl⟩
      obtain ⟨k, ls0, q1, q2, q3, q4⟩ := hm1get d ls hl
      exact ⟨k, (hn.hρ k).2 ⟨d, q1⟩, q4.symm⟩
    · rintro ⟨k, hk, rfl⟩
      obtain ⟨cn, q1⟩ := (hn.hρ k).1 hk
      obtain ⟨ls0, q2, ls, q3⟩ := lentM_has hm1 cn k q1
      refine ⟨cn, ls, q3, ?_⟩
      show (match nlk cn ρ with | some k => c.β k | none => c.β cn) = _
      rw [q1]
  have hcall := hv c1 (args.toList.map fun x => (st.ev x).mvn fun k => nlkR k ρ) m1 (args.map a.eval) (by simp) (fun j x hx => by
      simp only [List.getElem?_map, Option.map_eq_some_iff] at hx
      obtain ⟨y, hy, rfl⟩ := hx
      have e : (args.map a.eval).getD j undef = a.eval y := by
        rw [Array.getElem?_toList] at hy
        simp [Array.getD_eq_getD_getElem?, hy]
      rw [e]
      exact hlend (R.ev hσ y))
    (fun x hx => by
      simp only [List.mem_map] at hx
      obtain ⟨y, _, rfl⟩ := hx
      exact mvn_nt _ _) hpre (hi _ G.fr) G.sx G.s1
    (fun d ls hl => by
      obtain ⟨k, ls0, q1, q2, rfl, q4⟩ := hm1get d ls hl
      obtain ⟨cs, T, b1, b2, b3, b4, b5⟩ := G.box k ls0 q2
      refine ⟨hn.lent d k q1, mvnAll_nt _ _, cs, T.cast (hbρ k d q1), by rw [q4]; exact b2, by rw [mvnAll_eq, List.length_map]; exact b3, fun j x hx => ?_, fun o => by rw [q4]; exact b5 o⟩
      rw [mvnAll_eq, List.getElem?_map, Option.map_eq_some_iff] at hx
      obtain ⟨y, hy, rfl⟩ := hx
      exact hlend (b4 j y hy))
    (fun d d' ls ls' hl hl' he => by
      obtain ⟨k, ls0, q1, q2, rfl, q4⟩ := hm1get d ls hl
      obtain ⟨k', ls0', q1', q2', rfl, q4'⟩ := hm1get d' ls' hl'
      rw [q4, q4'] at he
      obtain rfl := G.boxinj k k' ls0 ls0' q2 q2' he
      have i1 := (hn.inv d k).1 ((hn.part d k).2 (.inl q1))
      have i2 := (hn.inv d' k).1 ((hn.part d' k).2 (.inl q1'))
      rw [i1] at i2
      exact Option.some.inj i2)
  refine hcall.mono fun e w' ⟨v, r, m2, c', he, hp, O⟩ => ?_
  subst he
  refine hnx r m2 hp _ _ ?_
  -- the caller's context behind the call
  let F : Nat → Bool := fun k => hasR k φ
  let β3 : Nat → Nat := fun k => match nlkR k (ρ ++ φ) with | some cn => c'.β cn | none => c.β k
  let c3 : Gh := { c with w := w', S := fun b o => c.S b o ∨ c'.S b o, β := β3 }
  have hlb : ∀ b, (∃ d ls, lkm d m1 = some ls ∧ c1.β d = b) → ∃ k ls, lkm k st.m = some ls ∧ hasR k ρ = true ∧ c.β k = b := fun b h => by
    obtain ⟨k, hk, hb⟩ := (hlentblk b).1 h
    obtain ⟨cn, q1⟩ := (hn.hρ k).1 hk
    obtain ⟨ls0, q2, _⟩ := lentM_has hm1 cn k q1
    exact ⟨k, ls0, q2, hk, hb⟩
  have hblk : ∀ b, b < c.w.heap.size → (∀ k, hasR k ρ = true → c.β k ≠ b) → w'.heap[b]? = c.w.heap[b]? := fun b hb hnl => O.fr.block b hb (by simp) (fun hL => by
    obtain ⟨k, hk, e⟩ := (hlentblk b).1 hL
    exact hnl k hk e)
  have hSl : ∀ b o, c.S b o → ∀ k, hasR k ρ = true → c.β k ≠ b := fun b o hS k hk e => by
    obtain ⟨cn, q1⟩ := (hn.hρ k).1 hk
    obtain ⟨ls0, q2, _⟩ := lentM_has hm1 cn k q1
    obtain ⟨cs, T, b1, b2, b3, b4, b5⟩ := G.box k ls0 q2
    exact b5 o (e ▸ hS)
  have hk3 : Keeps c.w c.S c3.w c3.S := Keeps.same (fun _ _ h => .inl h) fun b o hS => hblk b (G.slt hS) (hSl b o hS)
  have hk3' : Keeps c'.w c'.S c3.w c3.S := Keeps.same (fun _ _ h => .inr h) fun b o hS => by rw [O.w]
  have hβF : ∀ k, F k = false → c3.β k = c.β k := fun k hk => by
    show (match nlkR k (ρ ++ φ) with | some cn => c'.β cn | none => c.β k) = _
    split
    · rename_i cn hcn
      rcases (hn.part cn k).1 ((hn.inv cn k).2 hcn) with q | q
      · rw [O.bl cn (hn.lent cn k q)]
        show (match nlk cn ρ with | some k => c.β k | none => c.β cn) = _
        rw [q]
      · have : F k = true := (hn.hφ k).2 ⟨cn, q⟩
        rw [hk] at this; cases this
    · rfl
  have hβb : ∀ cn k, nlk cn (ρ ++ φ) = some k → c3.β k = c'.β cn := fun cn k h => by
    show (match nlkR k (ρ ++ φ) with | some cn => c'.β cn | none => c.β k) = _
    rw [(hn.inv cn k).1 h]
  have hst : ∀ {x v}, Rd c x v → Rd c3 (x.stripF F) v := fun h => h.stripF hk3 rfl hβF rfl rfl
  have hbk : ∀ {x v}, Rd c' x v → Rd c3 (x.mvn fun cn => nlk cn (ρ ++ φ)) v := fun h => h.mvn _ hk3' (fun cn k h => ⟨hβb cn k h, (hn.hb cn k h).symm⟩)
  have hle := G.hle
  -- what a box behind the call is
  have hget : ∀ k ls, lkm k (backM (fun cn => nlk cn (ρ ++ φ)) m2 (remF (fun k => hasR k (ρ ++ φ)) (stripFm F st.m)) (ρ ++ φ)) = some ls →
      (∃ cn ls0, nlk cn (ρ ++ φ) = some k ∧ lkm cn m2 = some ls0 ∧ ls = AV.mvnAll (fun cn => nlk cn (ρ ++ φ)) ls0) ∨ ((∀ cn, nlk cn (ρ ++ φ) ≠ some k) ∧ ∃ ls0, lkm k st.m = some ls0 ∧ ls = AV.stripFAll F ls0) := fun k ls hl => by
    rcases backM_get k ls hl with ⟨cn, ls0, q1, q2, q3⟩ | q
    · exact .inl ⟨cn, ls0, hmem cn k q1, q2, q3⟩
    · rw [lkm_remF] at q
      split at q
      · cases q
      · rename_i hne
        rw [lkm_stripF, Option.map_eq_some_iff] at q
        obtain ⟨ls0, q1, q2⟩ := q
        refine .inr ⟨fun cn e => hne ?_, ls0, q1, q2.symm⟩
        have happ : ∀ l l' : List (Nat × Nat), hasR k (l ++ l') = (hasR k l || hasR k l') := fun l l' => by
          induction l with
          | nil => simp [hasR]
          | cons p l ih => obtain ⟨x, y⟩ := p; simp only [List.cons_append, hasR]; split <;> simp [ih]
        show hasR k (ρ ++ φ) = true
        rw [happ]
        rcases (hn.part cn k).1 e with q | q
        · simp [(hn.hρ k).2 ⟨cn, q⟩]
        · simp [(hn.hφ k).2 ⟨cn, q⟩]
  have hother : ∀ k ls0, (∀ cn, nlk cn (ρ ++ φ) ≠ some k) → lkm k st.m = some ls0 → c3.β k = c.β k ∧ (∀ k', hasR k' ρ = true → c.β k' ≠ c.β k) ∧ w'.heap[c.β k]? = c.w.heap[c.β k]? := fun k ls0 hne hl => by
    have e1 : c3.β k = c.β k := hβF k (by
      cases hF : F k
      · rfl
      · obtain ⟨fn, q⟩ := (hn.hφ k).1 hF
        exact absurd ((hn.part fn k).2 (.inr q)) (hne fn))
    have e2 : ∀ k', hasR k' ρ = true → c.β k' ≠ c.β k := fun k' hk' e => by
      obtain ⟨cn, q1⟩ := (hn.hρ k').1 hk'
      obtain ⟨ls1, q2, _⟩ := lentM_has hm1 cn k' q1
      obtain rfl := G.boxinj k' k ls1 ls0 q2 hl e
      exact hne cn ((hn.part cn k').2 (.inl q1))
    exact ⟨e1, e2, hblk _ (G.box k ls0 hl).lt.2 e2⟩
  have hnew : ∀ cn ls0, lkm cn m2 = some ls0 → (c.w.heap.size ≤ c'.β cn ∨ ∃ k ls, lkm k st.m = some ls ∧ hasR k ρ = true ∧ c.β k = c'.β cn) := fun cn ls0 hl => by
    rcases (O.box cn ls0 hl).lt.1 with q | q
    · exact .inl q
    · exact .inr (hlb _ q)
  have hsep : ∀ cn ls0 k ls1, lkm cn m2 = some ls0 → (∀ cn, nlk cn (ρ ++ φ) ≠ some k) → lkm k st.m = some ls1 → c'.β cn ≠ c.β k := fun cn ls0 k ls1 h1 h2 h3 e => by
    rcases hnew cn ls0 h1 with q | ⟨k', l', _, q2, q3⟩
    · have := (G.box k ls1 h3).lt.2; omega
    · exact (hother k ls1 h2 h3).2.1 k' q2 (q3.trans e)
  refine R.put (st := { nt := st.nt, σ := stripFσ F st.σ, m := backM (fun cn => nlk cn (ρ ++ φ)) m2 (remF (fun k => hasR k (ρ ++ φ)) (stripFm F st.m)) (ρ ++ φ), rn := st.rn }) (c := c3) rfl ?_ (fun x => by show Rd c3 (lk x (stripFσ F st.σ)) _; rw [lk_stripF]; exact hst (hσ x)) h4 h5 (hbk O.rd)
  refine { bl := fun k hk => ?_, cg := G.cg, fr := ?_, lx := G.lx, sx := fun b o h => ?_, s1 := fun b o v h hv => ?_, sS := fun b o h => ?_, sg := fun hd o h => ?_, box := fun k ls hl => ?_, boxinj := fun k k' ls ls' hl hl' he => ?_,
            tok := fun k j => ?_, toktok := G.toktok, tokbox := fun k j b k' ls hb hl he => ?_, rk := fun hd => ?_ }
  · exact ⟨O.fr.os.trans G.fr.os, O.fr.tape.trans G.fr.tape, O.fr.output.trans G.fr.output, Nat.le_trans G.fr.size O.fr.size, fun i hi1 hi2 hi3 =>
      (hblk i (Nat.lt_of_lt_of_le hi1 G.fr.size) (fun k hk e => by
        obtain ⟨cn, q1⟩ := (hn.hρ k).1 hk
        obtain ⟨ls0, q2, _⟩ := lentM_has hm1 cn k q1
        rcases (G.box k ls0 q2).lt.1 with q | q
        · omega
        · exact hi3 (e ▸ q))).trans (G.fr.block i hi1 hi2 hi3)⟩
  · rcases h with h | h
    · exact hk3.lk h (G.sx b o h)
    · exact hk3'.lk h (O.sx b o h)
  · rcases h with h | h
    · exact s1_keep G hk3 h hv
    · exact O.s1 b o v h (by rw [O.w]; exact hv)
  · rcases h with h | h
    · exact G.sS b o h
    · rcases O.S b o h with h | h
      · have h : c.w.heap.size ≤ b := h
        exact .inl (by omega)
      · exact G.sS b o h
  · rcases h with h | h
    · exact G.sg hd o h
    · rcases O.S _ _ h with h | h
      · have h : c.w.heap.size ≤ E.g := h
        have := (G.rk hd).1; omega
      · exact G.sg hd o h
  · rcases hget k ls hl with ⟨cn, ls0, q1, q2, rfl⟩ | ⟨q0, ls0, q1, rfl⟩
    · obtain ⟨cs, T, b1, b2, b3, b4, b5⟩ := O.box cn ls0 q2
      rw [O.w] at b2
      refine ⟨cs, T.cast (hn.hb cn k q1).symm, ?_, by rw [hβb cn k q1]; exact b2, by rw [mvnAll_eq, List.length_map]; exact b3, fun j x hx => ?_, fun o ho => ?_⟩
      · rw [hβb cn k q1]
        rcases hnew cn ls0 q2 with q | ⟨k', l', p1, p2, p3⟩
        · exact .inl (by omega)
        · rw [← p3]; exact (G.box k' l' p1).lt.1
      · rw [mvnAll_eq, List.getElem?_map, Option.map_eq_some_iff] at hx
        obtain ⟨y, hy, rfl⟩ := hx
        exact hbk (b4 j y hy)
      · rw [hβb cn k q1] at ho
        rcases ho with ho | ho
        · rcases hnew cn ls0 q2 with q | ⟨k', l', p1, p2, p3⟩
          · have := G.slt ho; omega
          · exact hSl _ o ho k' p2 p3
        · exact b5 o ho
    · obtain ⟨e1, e2, e3⟩ := hother k ls0 q0 q1
      obtain ⟨cs, T, b1, b2, b3, b4, b5⟩ := G.box k ls0 q1
      refine ⟨cs, T, by rw [e1]; exact b1, by rw [e1]; exact e3.trans b2, by rw [stripFAll_eq, List.length_map]; exact b3, fun j x hx => ?_, fun o ho => ?_⟩
      · rw [stripFAll_eq, List.getElem?_map, Option.map_eq_some_iff] at hx
        obtain ⟨y, hy, rfl⟩ := hx
        exact hst (b4 j y hy)
      · rw [e1] at ho
        rcases ho with ho | ho
        · exact b5 o ho
        · rcases O.S _ _ ho with h | h
          · have h : c.w.heap.size ≤ c.β k := h
            have := (G.box k ls0 q1).lt.2; omega
          · exact b5 o h
  · rcases hget k ls hl with ⟨cn, ls0, q1, q2, rfl⟩ | ⟨q0, ls0, q1, rfl⟩
    · rcases hget k' ls' hl' with ⟨cn', ls0', q1', q2', rfl⟩ | ⟨q0', ls0', q1', rfl⟩
      · rw [hβb cn k q1, hβb cn' k' q1'] at he
        obtain rfl := O.boxinj cn cn' ls0 ls0' q2 q2' he
        rw [q1] at q1'; exact Option.some.inj q1'
      · rw [hβb cn k q1, (hother k' ls0' q0' q1').1] at he
        exact absurd he (hsep cn ls0 k' ls0' q2 q0' q1')
    · rcases hget k' ls' hl' with ⟨cn', ls0', q1', q2', rfl⟩ | ⟨q0', ls0', q1', rfl⟩
      · rw [(hother k ls0 q0 q1).1, hβb cn' k' q1'] at he
        exact absurd he.symm (hsep cn' ls0' k ls0 q2' q0 q1)
      · rw [(hother k ls0 q0 q1).1, (hother k' ls0' q0' q1').1] at he
        exact G.boxinj k k' ls0 ls0' q1 q1' he
  · have ht := G.tok k j
    refine tok_keep ht rfl rfl fun b hb => ?_
    have hbl : ∀ k', hasR k' ρ = true → c.β k' ≠ b := fun k' hk' => by
      obtain ⟨cn, q1⟩ := (hn.hρ k').1 hk'
      obtain ⟨ls0, q2, _⟩ := lentM_has hm1 cn k' q1
      exact G.tokbox k j b k' ls0 hb q2
    refine ⟨hblk b (ht.lt hb).2 hbl, fun o h => ?_⟩
    rcases h with h | h
    · exact h
    · rcases O.S _ _ h with h | h
      · have h : c.w.heap.size ≤ b := h
        have := (ht.lt hb).2; omega
      · exact h
  · rcases hget k' ls hl with ⟨cn, ls0, q1, q2, rfl⟩ | ⟨q0, ls0, q1, rfl⟩
    · rw [hβb cn k' q1] at he
      rcases hnew cn ls0 q2 with q | ⟨k2, l2, p1, p2, p3⟩
      · have := ((G.tok k j).lt hb).2; omega
      · exact G.tokbox k j b k2 l2 hb p1 (p3.trans he)
    · rw [(hother k' ls0 q0 q1).1] at he
      exact G.tokbox k j b k' ls0 hb q1 he
  · refine (G.rk hd).same (fun k hk hk2 => hblk k (by have := G.hle; omega) fun k' hk' e => ?_) (Nat.le_refl _)
    obtain ⟨cn, q1⟩ := (hn.hρ k').1 hk'
    obtain ⟨ls0, q2, _⟩ := lentM_has hm1 cn k' q1
    rcases (G.box k' ls0 q2).lt.1 with q | q
    · omega
    · have := G.lx hd _ q
      rw [e] at this
      rcases hk2 with h | h
      · exact this.1 h
      · exact this.2 h
  · rw [hβF k (by
      cases hF : F k
      · rfl
      · obtain ⟨fn, q⟩ := (hn.hφ k).1 hF
        have := (hn.new fn k q).2; omega)]
    exact G.bl k hk

/-- a function without a body,told on what its arguments read as -/
def ExG:=List AV→List (Nat × List AV)→Option (Prop × AV)
def ExtOk (P:Program) (f:FuncId) (g:ExG):Prop :=
 ∀ (c:Gh) (m:List (Nat × List AV)) (args:List AV) (vs:Array Value),(∀ d ls,bk d=0→lkm d m=some ls→∃ cs T,c.w.heap[c.β d]? = some (.cells cs T (0,0))∧cs.size=ls.length)→(∀ d d' ls ls',lkm d m=some ls→lkm d' m=some ls'→c.β d=c.β d'→d=d')→
  vs.size=args.length→(∀ j x,args[j]? = some x→Rd c x (vs.getD j undef))→∀ cc r,g args m=some (cc,r)→cc→∃ v,(callFunc f vs).run P c.w = .ok (.value v) c.w∧Rd c r v
theorem op_callX (h:R E st a w) (f:FuncId) (fo:Operand) (args:Array Operand) (ats:Array TypeId) (ho:o.op = .call { callee:=.value fo,args:=args,argTypes:=ats }) (hf:st.ev fo = .v (.func (.func f) #[] #[])) {g:ExG} (hx:ExtOk E.P f g)
  {cc:Prop} {r:AV} (hg:g (args.toList.map st.ev) st.m=some (cc,r)) (hc:cc):Yields E o (st.put o.dst r) a w:=by
 have e1:a.eval fo = .func (.func f) #[] #[]:=by
  obtain ⟨c,h1,h2,h3,h4,h5,h6⟩:=h.get fo
  rw [hf] at h6;generalize a.eval fo=u at h6;cases h6;rfl
 obtain ⟨c,h1,G,hσ,h4,h5⟩:=h
 obtain ⟨v,hr,hv⟩:=hx c st.m (args.toList.map st.ev) (args.map a.eval) (fun d ls hk0 hl=>by
   obtain ⟨cs,T,_,b2,b3,_⟩:=(G.box d ls hl).cells hk0;exact ⟨cs,T,b2,b3⟩) G.boxinj (by simp) (fun j x hx=>by
   simp only [List.getElem?_map,Option.map_eq_some_iff] at hx
   obtain ⟨y,hy,rfl⟩:=hx
   have e:(args.map a.eval).getD j undef=a.eval y:=by
    rw [Array.getElem?_toList] at hy
    simp [Array.getD_eq_getD_getElem?,hy]
   rw [e];exact R.ev hσ y) cc r hg hc
 refine ⟨v,w,?_,R.put h1 G hσ h4 h5 hv⟩
 subst h1
 unfold execOp;rw [ho]
 simp only [Sem.run_bind,resolve,e1,Deferred.ofValue,Sem.run_pure,Result.andThen_ok,invoke]
 simp only [Array.empty_append,Array.append_empty,hr]
end
end Go.Eng
end
section
namespace Go.Eng
open Go Go.RowKit
/-- a function that is told by a function -/
structure DFn where
 g:List AV→Option (Prop × AV)
 own:Bool:=false
 inv:World→Prop:=fun _=>True
def DFn.con (d:DFn):Con:={ pre:=fun args=>∃ c r,d.g args=some (c,r)∧c,post:=fun args r=>∃ c,d.g args=some (c,r),own:=d.own,inv:=d.inv }
structure Tb where
 T:List (TypeId × TyI)
 G:List (FuncId × Con)
 D:List (FuncId × DFn)
 draws:Bool
 lent:Bool:=false
 gl:List (Nat × Value):=[]
 M:List ((TypeId × String) × FuncId):=[]
 MM:List (FuncId × (ConM × List (Nat × Nat) × List (Nat × Nat))):=[]
 X:List Nat:=[]
 EX:List (FuncId × ExG):=[]
 ln:Option (List Nat):=none
def gk (f:FuncId):List (FuncId × Con)→Option Con
 | []=>none
 | (u,i)::l=>if f=u then some i else gk f l
def dk (f:FuncId):List (FuncId × DFn)→Option DFn
 | []=>none
 | (u,i)::l=>if f=u then some i else dk f l
/-- methods of dynamic types -/
def MsOk (P:Program) (M:List ((TypeId × String) × FuncId)):Prop:=∀ p ∈ M,∀ v w,(Go.method (P.types.size + Made.depth) p.1.1 v p.1.2).run P w = .ok (p.2,v) w
theorem ms_nil {P:Program}:MsOk P []:=fun p hp=>by cases hp
def mk (t:TypeId):List ((TypeId × String) × FuncId)→Option (String × FuncId)
 | []=>none
 | ((u,s),f)::l=>if t=u then some (s,f) else mk t l
theorem mk_mem {t:TypeId} {n:String} {f:FuncId}:∀ {l:List ((TypeId × String) × FuncId)},mk t l=some (n,f)→((t,n),f) ∈ l
 | [],h=>by cases h
 | ((u,s),i)::l,h=>by
  simp only [mk] at h
  split at h
  ·rename_i e;subst e
   obtain ⟨rfl,rfl⟩:=Prod.mk.inj (Option.some.inj h)
   simp
  ·exact List.mem_cons_of_mem _ (mk_mem h)
structure TbOk (E:En) (tb:Tb):Prop where
 T:TysOk E.P tb.T
 G:∀ p ∈ tb.G,Callable E.P p.1∧Valid E.P p.1 p.2
 D:∀ p ∈ tb.D,Callable E.P p.1∧Valid E.P p.1 p.2.con
 iG:∀ p ∈ tb.G,∀ w,GrownL E.w0 w (if E.draws then some E.g else none) E.L→p.2.inv w
 iD:∀ p ∈ tb.D,∀ w,GrownL E.w0 w (if E.draws then some E.g else none) E.L→p.2.inv w
 dr:E.draws=tb.draws
 gl:∀ p ∈ tb.gl,p.2.oneCell'=true∧∀ w,GrownL E.w0 w (if E.draws then some E.g else none) E.L→w.cell? ⟨p.1,0,none⟩=some p.2
 nl:tb.lent=false→∀ b,¬ E.L b
 mx:E.P.follows .mixedOrders=true
 M:MsOk E.P tb.M
 MM:∀ p ∈ tb.MM,(Callable E.P p.1∧ValidM E.P p.1 p.2.1)∧okN p.2.2.1 p.2.2.2∧∀ w,GrownL E.w0 w (if E.draws then some E.g else none) E.L→p.2.1.inv w
 EX:∀ p ∈ tb.EX,ExtOk E.P p.1 p.2
 ln:∀ l,tb.ln=some l→∀ b,E.L b→∃ d ∈ l,1000≤d∧E.b0 d=b
/-- a box that is not lent -/
def frzOk (tb:Tb) (d:Nat) (m:List (Nat × List AV)):Prop:=match tb.ln with
 | none=>tb.lent=false
 | some l=>(l.all fun k=>decide (k≠d) && (lkm k m).isSome)=true
theorem frzOk_ok {E:En} {tb:Tb} (hE:TbOk E tb) {d:Nat} {st:St} {ls:List AV} (hl:lkm d st.m=some ls) (h:frzOk tb d st.m):∀ c,Good E st.m st.rn c→¬ E.L (c.β d):=fun c G hb=>by
 unfold frzOk at h
 split at h
 ·exact hE.nl h _ hb
 ·rename_i l e
  obtain ⟨k,hk,h1,h2⟩:=hE.ln l e _ hb
  have:=List.all_eq_true.1 h k hk
  simp only [Bool.and_eq_true,decide_eq_true_eq] at this
  obtain ⟨ls',hl'⟩:=Option.isSome_iff_exists.1 this.2
  exact this.1 (G.boxinj k d ls' ls hl' hl ((G.bl k h1).trans h2))
def mmk (f:FuncId):List (FuncId × (ConM × List (Nat × Nat) × List (Nat × Nat)))→Option (ConM × List (Nat × Nat) × List (Nat × Nat))
 | []=>none
 | (u,i)::l=>if f=u then some i else mmk f l
theorem mmk_mem {f:FuncId} {x}:∀ {l:List (FuncId × (ConM × List (Nat × Nat) × List (Nat × Nat)))},mmk f l=some x→(f,x) ∈ l
 | [],h=>by cases h
 | (u,i)::l,h=>by
  simp only [mmk] at h
  split at h
  ·rename_i e;subst e;obtain rfl:=Option.some.inj h;simp
  ·exact List.mem_cons_of_mem _ (mmk_mem h)
def exk (f:FuncId):List (FuncId × ExG)→Option ExG
 | []=>none
 | (u,i)::l=>if f=u then some i else exk f l
theorem exk_mem {f:FuncId} {x}:∀ {l:List (FuncId × ExG)},exk f l=some x→(f,x) ∈ l
 | [],h=>by cases h
 | (u,i)::l,h=>by
  simp only [exk] at h
  split at h
  ·rename_i e;subst e;obtain rfl:=Option.some.inj h;simp
  ·exact List.mem_cons_of_mem _ (exk_mem h)
theorem TbOk.get {E:En} {tb:Tb} (h:TbOk E tb) {f:FuncId} {C:Con} (hf:gk f tb.G=some C):(Callable E.P f∧Valid E.P f C)∧∀ w,GrownL E.w0 w (if E.draws then some E.g else none) E.L→C.inv w:=by
 have:∀ l:List (FuncId × Con),gk f l=some C→(f,C) ∈ l:=by
  intro l
  induction l with
  | nil=>intro h;simp [gk] at h
  | cons p l ih =>
   intro h
   obtain ⟨u,k⟩:=p
   simp only [gk] at h
   split at h
   ·rename_i e;subst e;obtain rfl:=Option.some.inj h;simp
   ·simp [ih h]
 exact ⟨h.G (f,C) (this _ hf),h.iG (f,C) (this _ hf)⟩
theorem TbOk.det {E:En} {tb:Tb} (h:TbOk E tb) {f:FuncId} {d:DFn} (hf:dk f tb.D=some d):(Callable E.P f∧Valid E.P f d.con)∧∀ w,GrownL E.w0 w (if E.draws then some E.g else none) E.L→d.inv w:=by
 have:∀ l:List (FuncId × DFn),dk f l=some d→(f,d) ∈ l:=by
  intro l
  induction l with
  | nil=>intro h;simp [dk] at h
  | cons p l ih =>
   intro h
   obtain ⟨u,k⟩:=p
   simp only [dk] at h
   split at h
   ·rename_i e;subst e;obtain rfl:=Option.some.inj h;simp
   ·simp [ih h]
 exact ⟨h.D (f,d) (this _ hf),h.iD (f,d) (this _ hf)⟩
/-- a slice type's element type -/
def elt (T:List (TypeId × TyI)) (t:TypeId):Option (TypeId × TyI) :=
 match tyk t T with
 | some i=>match i.elem with
  | some e=>match tyk e T with
   | some ie=>some (e,ie)
   | none=>none
  | none=>none
 | none=>none
theorem elt_ok {P:Program} {T:List (TypeId × TyI)} (hT:TysOk P T) {t e:TypeId} {ie:TyI} (h:elt T t=some (e,ie)):∃ i,TyOk P t i∧i.elem=some e∧TyOk P e ie:=by
 unfold elt at h
 split at h
 ·rename_i i hi
  split at h
  ·rename_i e' he
   split at h
   ·rename_i ie' hie
    obtain ⟨rfl,rfl⟩:=Prod.mk.inj (Option.some.inj h)
    exact ⟨i,hT.get hi,he,hT.get hie⟩
   ·cases h
  ·cases h
 ·cases h
/-- a struct type's field -/
def fld (T:List (TypeId × TyI)) (t:TypeId) (k:Nat):Option (Nat × TyI) :=
 match tyk t T with
 | some i=>match i.fields[k]? with
  | some (off,ft)=>match tyk ft T with
   | some fi=>some (off,fi)
   | none=>none
  | none=>none
 | none=>none
theorem fld_ok {P:Program} {T:List (TypeId × TyI)} (hT:TysOk P T) {t:TypeId} {k off:Nat} {fi:TyI} (h:fld T t k=some (off,fi)):∃ i ft,TyOk P t i∧i.fields[k]? = some (off,ft)∧TyOk P ft fi:=by
 unfold fld at h
 split at h
 ·rename_i i hi
  split at h
  ·rename_i off' ft hf
   split at h
   ·rename_i fi' hfi
    obtain ⟨rfl,rfl⟩:=Prod.mk.inj (Option.some.inj h)
    exact ⟨i,ft,hT.get hi,hf,hT.get hfi⟩
   ·cases h
  ·cases h
 ·cases h
def pickA (t:Bool) (x y:AV):AV :=
 match x,y with
 | .v (.bool p),.v (.bool q)=>.v (.bool (bif t then p else q))
 | x,y=>bif t then x else y
theorem pickA_eq (t:Bool) (x y:AV):pickA t x y=if t then x else y:=by
 unfold pickA
 split<;>cases t<;>rfl
def isbT (T:List (TypeId × TyI)) (t:TypeId):Bool:=match tyk t T with | some i=>i.isb | none=>false
def eq2T (T:List (TypeId × TyI)) (t:TypeId):Bool:=match tyk t T with | some i=>i.eq2 | none=>false
def ifcT (T:List (TypeId × TyI)) (t:TypeId):Bool:=match tyk t T with | some i=>i.ifc | none=>false
theorem ifcT_ok {P:Program} {T:List (TypeId × TyI)} (hT:TysOk P T) {t:TypeId} (h:ifcT T t=true):isIf P t:=by
 unfold ifcT at h
 split at h
 ·rename_i i hi;exact (hT.get hi).fc h
 ·cases h
def nilV:AV→Option Bool
 | .v .nilIface=>some true
 | .v (.iface _ _)=>some false
 | .dv (.ifc _ _)=>some false
 | _=>none
def nilR (op:BinOp) (b:Bool):Option Bool:=match op with | .eql=>some b | .neq=>some (!b) | _=>none
def issT (T:List (TypeId × TyI)) (t:TypeId):Bool:=match tyk t T with | some i=>i.iss | none=>false
theorem issT_ok {P:Program} {T:List (TypeId × TyI)} (hT:TysOk P T) {t:TypeId} (h:issT T t=true):P.underlying t=some .string:=by
 unfold issT at h
 split at h
 ·rename_i i hi;exact (hT.get hi).ss h
 ·cases h
theorem isbT_ok {P:Program} {T:List (TypeId × TyI)} (hT:TysOk P T) {t:TypeId} (h:isbT T t=true):P.underlying t=some .bool:=by
 unfold isbT at h
 split at h
 ·rename_i i hi;exact (hT.get hi).bl h
 ·cases h
def bnd (ev:Operand→AV):Option Operand→Option Int→Option Int
 | none,d=>d
 | some y,_=>match ev y with
  | .v (.int _ n)=>some n
  | _=>none
def ld (i:TyI) (ls:List AV):Option (Prop × AV) :=
 match ldL i ls with
 | some r=>some ((i.agg=false→i.size=1)∧0 < i.size,r)
 | none=>none
/-- package-level variables that hold a known value -/
def glk (g:Nat):List (Nat × Value)→Option Value
 | []=>none
 | (u,i)::l=>if g=u then some i else glk g l
theorem glk_mem {g:Nat} {v:Value}:∀ {l:List (Nat × Value)},glk g l=some v→(g,v) ∈ l
 | [],h=>by cases h
 | (u,i)::l,h=>by
  simp only [glk] at h
  split at h
  ·rename_i e;subst e;obtain rfl:=Option.some.inj h;simp
  ·exact List.mem_cons_of_mem _ (glk_mem h)
/-! pointers against nil -/
def ptrN:AV→Option Bool
 | .loc _ _=>some false
 | .el _=>some false
 | .rd=>some false
 | .v (.pointer none)=>some true
 | .v (.pointer (some _))=>some false
 | _=>none
theorem ptrN_ok {c:Gh} {x:AV} {v:Value} {b:Bool} (h:Rd c x v) (hb:ptrN x=some b):∃ p:Option Addr,v = .pointer p∧p.isNone=b:=by
 unfold ptrN at hb
 split at hb
 all_goals cases hb
 all_goals
  cases h
  exact ⟨_,rfl,rfl⟩
theorem op_ptrnil {E:En} {o:Oper} {st:St} {a:Act} {w:World} (h:R E st a w) {op:BinOp} {t t':TypeId} {x:Operand} (ho:o.op = .binOp op t x (.const (.pointer none)) t') {i:TyI} (ht:TyOk E.P t i) (hp:i.ptr=true) {b r:Bool} (hb:ptrN (st.ev x)=some b) (hr:nilR op b=some r) :
  Yields E o (st.put o.dst (.v (.bool r))) a w:=by
 obtain ⟨c,h1,h2,h3,h4,h5,h6⟩:=h.get x
 obtain ⟨p,hv,hpb⟩:=ptrN_ok h6 hb
 obtain ⟨e,he⟩:=ht.pr hp
 have hh:E.P.underlying t=some (.pointer (E.P.pointee t)):=by simp [Program.pointee,he]
 have e2:a.eval (.const (.pointer none)) = .pointer none:=rfl
 have hcase:(op = .eql∧r=b)∨(op = .neq∧r = !b):=by
  unfold nilR at hr
  split at hr
  ·left;exact ⟨rfl,(Option.some.inj hr).symm⟩
  ·right;exact ⟨rfl,(Option.some.inj hr).symm⟩
  ·cases hr
 subst hpb
 rcases hcase with ⟨rfl,rfl⟩ | ⟨rfl,rfl⟩
 ·refine ⟨_,w,?_,R.put h1 h2 h3 h4 h5 (.v (.bool p.isNone) rfl)⟩
  unfold execOp;rw [ho]
  simp only [hv,e2,eqGuard_at_pointer,Sem.run_bind,Sem.run_pure,Result.andThen_ok,run_eql_pointer_nil w t p hh]
 ·refine ⟨_,w,?_,R.put h1 h2 h3 h4 h5 (.v (.bool (!p.isNone)) rfl)⟩
  unfold execOp;rw [ho]
  simp only [hv,e2,eqGuard_at_pointer,Sem.run_bind,Sem.run_pure,Result.andThen_ok,run_neq_pointer_nil w t p hh]
/-- operations that yield one value and leave the memory alone -/
def dop (T:List (TypeId × TyI)) (gl:List (Nat × Value)) (op:Op) (ev:Operand→AV) (m:Nat→Option (List AV)):Option (Prop × AV) :=
 match op with
 | .move x=>some (True,ev x)
 | .assign x=>some (True,ev x)
 | .pick c x y=>match ev c with
  | .v (.bool t)=>some (True,pickA t (ev x) (ev y))
  | _=>none
 | .binOp op t x (.const .nilIface) _=>match nilV (ev x) with
  | some b=>match nilR op b with
   | some r=>some (ifcT T t=true,.v (.bool r))
   | none=>none
  | none=>none
 | .binOp op t x (.const (.pointer none)) _=>match ptrN (ev x),tyk t T with
  | some b,some i=>match nilR op b with
   | some r=>some (i.ptr=true,.v (.bool r))
   | none=>none
  | _,_=>none
 | .binOp op t x y _=>match ev x,ev y with
  | .v a,.v b=>some (binC op (isbT T t) a b,.v (binR op a b))
  | .agg [.v (.int .i64 p),.v (.int .i64 q)],.agg [.v (.int .i64 r),.v (.int .i64 s)]=>match op with
   | .eql=>some (eq2T T t=true,.v (.bool (p == r && q == s)))
   | .neq=>some (eq2T T t=true,.v (.bool (!(p == r && q == s))))
   | _=>none
  | _,_=>none
 | .unOp .not _ x=>match ev x with
  | .v (.bool b)=>some (True,.v (.bool !b))
  | _=>none
 | .unOp .neg _ x=>match ev x with
  | .v (.int .i64 n)=>some (-9223372036854775807≤n∧n≤9223372036854775807,.v (.int .i64 (-n)))
  | _=>none
 | .convert s t x=>match ev x with
  | .v (.int _ n)=>match tyk s T,tyk t T with
   | some _,some i=>match i.ik with
    | some k=>some (True,.v (.int k (k.wrap n)))
    | none=>none
   | _,_=>none
  | y=>match y.els,elt T s with
   | some els,some (_,ie)=>match bytesL els with
    | some xs=>some (ie.ik=some .u8∧issT T t=true,.v (.string (strOfNums xs)))
    | none=>none
   | _,_=>none
 | .nilCheck x=>match ev x with
  | .loc d off=>some (True,.loc d off)
  | .el ls=>some (True,.el ls)
  | .rd=>some (True,.rd)
  | _=>none
 | .fieldAddr t x k=>match ev x,fld T t k with
  | .loc d o,some (off,fi)=>some (0 < fi.size,.loc d (o + off))
  | .el ls,some (off,fi)=>some (0 < fi.size,.el (ls.drop off))
  | _,_=>none
 | .field t x k=>match ev x,fld T t k with
  | .agg ls,some (off,fi)=>ld fi (ls.drop off)
  | _,_=>none
 | .extract x k=>match ev x with
  | .tup ls=>match ls[k]? with
   | some r=>some (True,r)
   | none=>none
  | _=>none
 | .indexAddr t x y=>match ev x with
  | .xs k off len cap sz=>match ev y,elt T t with
   | .v (.int _ n),some (_,ie)=>some (0≤n∧n < len∧sz=ie.size,.loc k (off + n.toNat * sz))
   | _,_=>none
  | z=>match z.els,ev y,elt T t with
   | some els,.v (.int _ n),some (_,ie)=>match els[n.toNat]? with
    | some row=>some (0≤n∧row.length=ie.size,.el row)
    | none=>none
   | _,_,_=>none
 | .index t x y=>match ev x,ev y with
  | .v (.string s),.v (.int _ n)=>some (0≤n∧n.toNat < s.size∧issT T t=true,.v (.int .u8 (s.data.getD n.toNat 0).toNat))
  | _,_=>none
 | .slice t x lo hi none=>match ev x with
  | .v (.string s)=>match bnd ev lo (some 0),bnd ev hi (some (s.size:Int)) with
   | some l,some u=>some (0≤l∧l≤u∧u≤(s.size:Int)∧issT T t=true,.v (.string (s.extract l.toNat u.toNat)))
   | _,_=>none
  | .xs k off len cap sz=>match elt T t,bnd ev lo (some 0),bnd ev hi (some (len:Int)) with
   | some (_,ie),some l,some u=>some (0≤l∧l≤u∧u≤cap∧sz=ie.size,.xs k (if cap=l.toNat then off else off + l.toNat * sz) (u.toNat - l.toNat) (cap - l.toNat) sz)
   | _,_,_=>none
  | z=>match z.els,elt T t with
   | some els,some (_,ie)=>match bnd ev lo (some 0),bnd ev hi (some els.length) with
    | some l,some u=>some (0≤l∧l≤u∧u≤els.length∧∀ row ∈ els,row.length=ie.size,.sl none ((els.take u.toNat).drop l.toNat))
    | _,_=>none
   | _,_=>none
 | .load t x=>match ev x,tyk t T with
  | .loc d off,some i=>match m d with
   | some ls=>ld i (ls.drop off)
   | none=>none
  | .el ls,some i=>ld i (ls.map DV.toAV)
  | .v (.pointer (some ⟨g,0,none⟩)),some i=>match glk g gl with
   | some u=>some (i.size=1∧i.agg=false,.v u)
   | none=>none
  | _,_=>none
 | .makeInterface t x=>match ifcA t (ev x),tyk t T with
  | some y,some i=>some (i.np=true,y)
  | _,_=>none
 | .build t parts=>match tyk t T with
  | some i=>match fldSizes T i.fields,partsE ev parts.toList with
   | some fl,some ps=>match fillL (fun k=>fl[k]?) (i.zero.map leafOf) ps with
    | some rs=>some (i.fields≠[],.agg rs)
    | none=>none
   | _,_=>none
  | none=>none
 | .call c=>match c.callee with
  | .builtin .len=>match c.args.toList,c.argTypes.toList with
   | [x],[t]=>match ev x with
    | .v (.string s)=>some (issT T t=true,.v (.int .i64 s.size))
    | .xs _ _ n _ _=>match elt T t with
     | some _=>some (True,.v (.int .i64 n))
     | none=>none
    | y=>match y.els,elt T t with
     | some els,some _=>some (True,.v (.int .i64 els.length))
     | _,_=>none
   | _,_=>none
  | .builtin .cap=>match c.args.toList,c.argTypes.toList with
   | [x],[t]=>match ev x with
    | .xs _ _ _ cap _=>match elt T t with
     | some _=>some (True,.v (.int .i64 cap))
     | none=>none
    | _=>none
   | _,_=>none
  | _=>none
 | _=>none
where
 partsE (ev:Operand→AV):List (Nat × Operand)→Option (List (Nat × List AV))
 | []=>some []
 | (k,x)::l=>match (ev x).leaves,partsE ev l with
  | some ls,some r=>some ((k,ls)::r)
  | _,_=>none
theorem hgl_of {E:En} {tb:Tb} (hE:TbOk E tb) {st:St} {a:Act} {w:World} (h:R E st a w):∀ p ∈ tb.gl,p.2.oneCell'=true∧w.cell? ⟨p.1,0,none⟩=some p.2:=fun p hp=>by
 obtain ⟨c,rfl,G,_⟩:=h
 exact ⟨(hE.gl p hp).1,(hE.gl p hp).2 _ G.fr⟩
theorem partsE_eq (st:St):∀ l,dop.partsE st.ev l=partsL st l
 | []=>rfl
 | (k,x)::l=>by simp only [dop.partsE,partsL,partsE_eq st l]<;>rfl
theorem arr1 {α:Type} {a:Array α} {x:α} (h:a.toList=[x]):a = #[x]:=by
 apply Array.ext';simpa using h
section
variable {E:En} {st:St} {a:Act} {w:World} {o:Oper}
theorem ld_ok {i:TyI} {ls:List AV} {c:Prop} {r:AV} (h:ld i ls=some (c,r)) (hc:c):ldL i ls=some r∧(i.agg=false→i.size=1)∧0 < i.size:=by
 unfold ld at h
 split at h
 ·rename_i r' hr
  obtain ⟨rfl,rfl⟩:=Prod.mk.inj (Option.some.inj h)
  exact ⟨hr,hc.1,hc.2⟩
 ·cases h
theorem bnd_ok {st:St} {y:Option Operand} {d:Int} {n:Int} (h:bnd st.ev y (some d)=some n):BndOk st y d n:=by
 cases y with
 | none=>exact (Option.some.inj h).symm
 | some y =>
  simp only [bnd] at h
  split at h
  ·rename_i k n' he
   obtain rfl:=Option.some.inj h
   exact ⟨k,he⟩
  ·cases h
theorem dop_ok (h:R E st a w) {T:List (TypeId × TyI)} (hT:TysOk E.P T) {gl:List (Nat × Value)} (hgl:∀ p ∈ gl,p.2.oneCell'=true∧w.cell? ⟨p.1,0,none⟩=some p.2) {c:Prop} {r:AV} (hd:dop T gl o.op st.ev (fun k=>lkm k st.m)=some (c,r)) (hc:c):Yields E o (st.put o.dst r) a w:=by
 unfold dop at hd
 split at hd
 case h_1 x ho=>obtain ⟨rfl,rfl⟩:=Prod.mk.inj (Option.some.inj hd);exact op_move h x (.inl ho)
 case h_2 x ho=>obtain ⟨rfl,rfl⟩:=Prod.mk.inj (Option.some.inj hd);exact op_move h x (.inr ho)
 case h_3 c x y ho =>
  split at hd
  ·rename_i t hx
   obtain ⟨rfl,rfl⟩:=Prod.mk.inj (Option.some.inj hd)
   rw [pickA_eq]
   exact op_pick h c x y ho hx
  ·cases hd
 case h_4 op t x t' ho =>
  split at hd
  ·rename_i b hx
   split at hd
   ·rename_i r hr
    obtain ⟨rfl,rfl⟩:=Prod.mk.inj (Option.some.inj hd)
    refine op_nil h op t t' x ho (ifcT_ok hT hc) (b:=b) ?_ ?_
    ·unfold nilV at hx
     split at hx
     ·rename_i e;obtain rfl:=Option.some.inj hx;exact .inl ⟨e,rfl⟩
     ·rename_i d u e;obtain rfl:=Option.some.inj hx;exact .inr ⟨.inl ⟨d,u,e⟩,rfl⟩
     ·rename_i d u e;obtain rfl:=Option.some.inj hx;exact .inr ⟨.inr ⟨d,u,e⟩,rfl⟩
     ·cases hx
    ·unfold nilR at hr
     split at hr
     ·obtain rfl:=Option.some.inj hr;exact .inl ⟨rfl,rfl⟩
     ·obtain rfl:=Option.some.inj hr;exact .inr ⟨rfl,rfl⟩
     ·cases hr
   ·cases hd
  ·cases hd
 case h_5 op t x t' ho =>
  split at hd
  ·rename_i b i hb hi
   split at hd
   ·rename_i r hr
    obtain ⟨rfl,rfl⟩:=Prod.mk.inj (Option.some.inj hd)
    exact op_ptrnil h ho (hT.get hi) hc hb hr
   ·cases hd
  ·cases hd
 case h_6 op t x y t' hne hne2 ho =>
  split at hd
  ·rename_i u v hx hy
   obtain ⟨rfl,rfl⟩:=Prod.mk.inj (Option.some.inj hd)
   exact op_bin h op t t' x y ho (fun e=>isbT_ok hT e) hx hy hc
  ·rename_i p q r' s hx hy
   split at hd
   ·obtain ⟨rfl,rfl⟩:=Prod.mk.inj (Option.some.inj hd)
    unfold eq2T at hc
    split at hc
    ·rename_i i hi;exact op_eq2 h false t t' x y ho (hT.get hi) hc hx hy
    ·cases hc
   ·obtain ⟨rfl,rfl⟩:=Prod.mk.inj (Option.some.inj hd)
    unfold eq2T at hc
    split at hc
    ·rename_i i hi;exact op_eq2 h true t t' x y ho (hT.get hi) hc hx hy
    ·cases hc
   ·cases hd
  ·cases hd
 case h_7 t x ho =>
  split at hd
  ·rename_i b hx
   obtain ⟨rfl,rfl⟩:=Prod.mk.inj (Option.some.inj hd)
   exact op_not h t x ho hx
  ·cases hd
 case h_8 t x ho =>
  split at hd
  ·rename_i n hx
   obtain ⟨rfl,rfl⟩:=Prod.mk.inj (Option.some.inj hd)
   exact op_neg h t x ho hx hc
  ·cases hd
 case h_9 s t x ho =>
  split at hd
  ·rename_i k n hx
   split at hd
   ·rename_i j i hs hi
    split at hd
    ·rename_i k' hk
     obtain ⟨rfl,rfl⟩:=Prod.mk.inj (Option.some.inj hd)
     exact op_conv h s t x ho (hT.get hs) (hT.get hi) hk hx
    ·cases hd
   ·cases hd
  ·split at hd
   ·rename_i els e ie hx he
    split at hd
    ·rename_i xs hb
     obtain ⟨rfl,rfl⟩:=Prod.mk.inj (Option.some.inj hd)
     obtain ⟨i,h1,h2,h3⟩:=elt_ok hT he
     exact op_convBytes h s t x ho h1 h2 h3 hc.1 (issT_ok hT hc.2) hx hb
    ·cases hd
   ·cases hd
 case h_10 x ho =>
  split at hd
  ·rename_i d off hx
   obtain ⟨rfl,rfl⟩:=Prod.mk.inj (Option.some.inj hd)
   exact op_nilCheck h x ho hx (.inl ⟨_,_,rfl⟩)
  ·rename_i ls hx
   obtain ⟨rfl,rfl⟩:=Prod.mk.inj (Option.some.inj hd)
   exact op_nilCheck h x ho hx (.inr (.inl ⟨_,rfl⟩))
  ·rename_i hx
   obtain ⟨rfl,rfl⟩:=Prod.mk.inj (Option.some.inj hd)
   exact op_nilCheck h x ho hx (.inr (.inr rfl))
  ·cases hd
 case h_11 t x k ho =>
  split at hd
  ·rename_i d o' off fi hx hf
   obtain ⟨rfl,rfl⟩:=Prod.mk.inj (Option.some.inj hd)
   obtain ⟨i,ft,h1,h2,h3⟩:=fld_ok hT hf
   exact op_fieldAddr h t x k ho h1 h2 h3 hc hx
  ·rename_i ls off fi hx hf
   obtain ⟨rfl,rfl⟩:=Prod.mk.inj (Option.some.inj hd)
   obtain ⟨i,ft,h1,h2,h3⟩:=fld_ok hT hf
   exact op_fieldAddr_el h t x k ho h1 h2 h3 hc hx
  ·cases hd
 case h_12 t x k ho =>
  split at hd
  ·rename_i ls off fi hx hf
   obtain ⟨h4,h5,h6⟩:=ld_ok hd hc
   obtain ⟨i,ft,h1,h2,h3⟩:=fld_ok hT hf
   exact op_field h t x k ho h1 h2 h3 h5 hx h4 h6
  ·cases hd
 case h_13 x k ho =>
  split at hd
  ·rename_i ls hx
   split at hd
   ·rename_i r' hr
    obtain ⟨rfl,rfl⟩:=Prod.mk.inj (Option.some.inj hd)
    exact op_extract h x k ho hx hr
   ·cases hd
  ·cases hd
 case h_14 t x y ho =>
  split at hd
  ·rename_i k off len cap sz hx
   split at hd
   ·rename_i kd n e ie hy he
    obtain ⟨rfl,rfl⟩:=Prod.mk.inj (Option.some.inj hd)
    obtain ⟨i,h1,h2,h3⟩:=elt_ok hT he
    exact op_indexAddr_xs h t x y ho h1 h2 h3 hx hy hc.1 hc.2.1 hc.2.2
   ·cases hd
  split at hd
  ·rename_i els k n e ie hx hy he
   split at hd
   ·rename_i row hrow
    obtain ⟨rfl,rfl⟩:=Prod.mk.inj (Option.some.inj hd)
    obtain ⟨i,h1,h2,h3⟩:=elt_ok hT he
    exact op_indexAddr h t x y ho h1 h2 h3 hx hy hc.1 hrow hc.2
   ·cases hd
  ·cases hd
 case h_15 t x y ho =>
  split at hd
  ·rename_i s k n hx hy
   obtain ⟨rfl,rfl⟩:=Prod.mk.inj (Option.some.inj hd)
   have:=op_index_str h t x y ho (issT_ok hT hc.2.2) hx hy hc.1 hc.2.1
   rw [show s.data.getD n.toNat 0=s[n.toNat]'hc.2.1 from by
    have hlt:n.toNat < s.data.size:=hc.2.1
    simp only [Array.getD,hlt,dif_pos];rfl]
   exact this
  ·cases hd
 case h_16 t x lo hi ho =>
  split at hd
  ·rename_i s hx
   split at hd
   ·rename_i l u hl hu
    obtain ⟨rfl,rfl⟩:=Prod.mk.inj (Option.some.inj hd)
    exact op_slice_str h t x lo hi ho (issT_ok hT hc.2.2.2) hx (bnd_ok hl) (bnd_ok hu) hc.1 hc.2.1 hc.2.2.1
   ·cases hd
  ·rename_i k off len cap sz hx
   split at hd
   ·rename_i e ie l u he hl hu
    obtain ⟨rfl,rfl⟩:=Prod.mk.inj (Option.some.inj hd)
    obtain ⟨i,h1,h2,h3⟩:=elt_ok hT he
    exact op_slice_xs h t x lo hi ho h1 h2 h3 hx (bnd_ok hl) (bnd_ok hu) hc.1 hc.2.1 hc.2.2.1 hc.2.2.2
   ·cases hd
  ·split at hd
   ·rename_i els e ie hx he
    split at hd
    ·rename_i l u hl hu
     obtain ⟨rfl,rfl⟩:=Prod.mk.inj (Option.some.inj hd)
     obtain ⟨i,h1,h2,h3⟩:=elt_ok hT he
     exact op_slice h t x lo hi ho h1 h2 h3 hx (bnd_ok hl) (bnd_ok hu) hc.1 hc.2.1 hc.2.2.1 hc.2.2.2
    ·cases hd
   ·cases hd
 case h_17 t x ho =>
  split at hd
  ·rename_i d off i hx hi
   split at hd
   ·rename_i ls hl
    obtain ⟨h4,h5,h6⟩:=ld_ok hd hc
    exact op_load_box h t x ho (hT.get hi) h5 h6 hx hl h4
   ·cases hd
  ·rename_i ls i hx hi
   obtain ⟨h4,h5,h6⟩:=ld_ok hd hc
   exact op_load_el h t x ho (hT.get hi) h5 h6 hx h4
  ·rename_i g i hx hi
   split at hd
   ·rename_i u hu
    obtain ⟨rfl,rfl⟩:=Prod.mk.inj (Option.some.inj hd)
    obtain ⟨q1,q2⟩:=hgl _ (glk_mem hu)
    exact op_load_gl h t x ho (hT.get hi) hc.1 hx q1 q2 hc.2
   ·cases hd
  ·cases hd
 case h_18 t x ho =>
  split at hd
  ·rename_i y i hy hi
   obtain ⟨rfl,rfl⟩:=Prod.mk.inj (Option.some.inj hd)
   exact op_makeIface h t x ho (hT.get hi) hc hy
  ·cases hd
 case h_19 t parts ho =>
  split at hd
  ·rename_i i hi
   split at hd
   ·rename_i fl ps hf hp
    split at hd
    ·rename_i rs hrs
     obtain ⟨rfl,rfl⟩:=Prod.mk.inj (Option.some.inj hd)
     rw [partsE_eq] at hp
     exact op_build h t parts ho hT (hT.get hi) hc hf hp hrs
    ·cases hd
   ·cases hd
  ·cases hd
 case h_20 cl ho =>
  split at hd
  ·rename_i hcl
   split at hd
   ·rename_i x t hx ht
    obtain ⟨callee,args,ats⟩:=cl
    simp only at hcl hx ht
    subst hcl
    have e1:=arr1 hx
    have e2:=arr1 ht
    subst e1;subst e2
    split at hd
    ·rename_i s hs
     obtain ⟨rfl,rfl⟩:=Prod.mk.inj (Option.some.inj hd)
     exact op_len_str h t x ho (issT_ok hT hc) hs
    ·rename_i k off n cap sz hs
     split at hd
     ·rename_i p hp
      obtain ⟨rfl,rfl⟩:=Prod.mk.inj (Option.some.inj hd)
      obtain ⟨e,ie⟩:=p
      obtain ⟨i,h1,h2,h3⟩:=elt_ok hT hp
      exact op_len_xs h t x ho h1 h2 hs
     ·cases hd
    ·split at hd
     ·rename_i els p hels hp
      obtain ⟨rfl,rfl⟩:=Prod.mk.inj (Option.some.inj hd)
      obtain ⟨e,ie⟩:=p
      obtain ⟨i,h1,h2,h3⟩:=elt_ok hT hp
      exact op_len h t x ho h1 h2 hels
     ·cases hd
   ·cases hd
  ·rename_i hcl
   split at hd
   ·rename_i x t hx ht
    obtain ⟨callee,args,ats⟩:=cl
    simp only at hcl hx ht
    subst hcl
    have e1:=arr1 hx
    have e2:=arr1 ht
    subst e1;subst e2
    split at hd
    ·rename_i k off n cap sz hs
     split at hd
     ·rename_i p hp
      obtain ⟨rfl,rfl⟩:=Prod.mk.inj (Option.some.inj hd)
      obtain ⟨e,ie⟩:=p
      obtain ⟨i,h1,h2,h3⟩:=elt_ok hT hp
      exact op_cap_xs h t x ho h1 h2 hs
     ·cases hd
    ·cases hd
   ·cases hd
  ·cases hd
 case h_21=>cases hd
end
end Go.Eng
end
section
namespace Go.Eng
open Go Go.RowKit
def AV.isLeaf:AV→Bool
 | .agg _ | .tup _ | .junk | .mb _=>false
 | _=>true
def allLeaf:List AV→Bool
 | []=>true
 | x::l=>x.isLeaf && allLeaf l
theorem allLeaf_ok {xs:List AV} (h:allLeaf xs=true):∀ z ∈ xs,(∀ l,z≠.agg l)∧z.leaves.isSome=true:=by
 induction xs with
 | nil=>intro z hz;cases hz
 | cons x xs ih =>
  simp only [allLeaf,Bool.and_eq_true] at h
  intro z hz
  rcases List.mem_cons.1 hz with rfl | hz
  ·cases z<;>simp_all [AV.isLeaf,AV.leaves]
  ·exact ih h.2 z hz
def fnOf:AV→Option FuncId
 | .v (.func (.func f) a b)=>if a.size=0∧b.size=0 then some f else none
 | _=>none
theorem fnOf_ok {x:AV} {f:FuncId} (h:fnOf x=some f):x = .v (.func (.func f) #[] #[]):=by
 unfold fnOf at h
 split at h
 ·rename_i f' a b
  split at h
  ·rename_i hs
   obtain rfl:=Option.some.inj h
   rw [Array.eq_empty_of_size_eq_zero hs.1,Array.eq_empty_of_size_eq_zero hs.2]
  ·cases h
 ·cases h
def argsE (st:St):List Operand→List AV
 | []=>[]
 | x::l=>(st.ev x).er::argsE st l
theorem argsE_eq (st:St) (l:List Operand):argsE st l=l.map fun x=>(st.ev x).er:=by
 induction l with
 | nil=>rfl
 | cons x l ih=>simp [argsE,ih]
/-- what appended to: the owner's key,its elements -/
def ownOf (d:Nat) (e:TypeId):AV→Option (Nat × List (List DV))
 | .nl=>some (d,[])
 | .sl (some (s,_,e')) els=>if e=e' then some (s,els) else none
 | _=>none
/-- a call of f with ys -/
def callA (tb:Tb) (f:FuncId) (ys:List AV) (st:St) (dst:Option Nat) (K:St→Prop):Prop :=
 match dk f tb.D with
 | some d=>match d.g ys with
  | some (c,r)=>c∧K (st.called dst d.con r)
  | none=>False
 | none=>match gk f tb.G with
  | some C=>(C.draws=true→tb.draws=true∧st.rn + C.cost≤lim)∧C.pre ys∧∀ r,C.post ys r→K (st.called dst C r)
  | none=>False
theorem callA_ok {E:En} {tb:Tb} (hE:TbOk E tb) {f:FuncId} {ys:List AV} {st:St} {dst:Option Nat} {K:St→Prop} (h:callA tb f ys st dst K) :
  ∃ C,Callable E.P f∧Valid E.P f C∧(∀ w,GrownL E.w0 w (if E.draws then some E.g else none) E.L→C.inv w)∧(C.draws=true→E.draws=true)∧C.pre ys∧(C.draws=true→st.rn + C.cost≤lim)∧∀ r,C.post ys r→K (st.called dst C r):=by
 unfold callA at h
 split at h
 ·rename_i d hd
  split at h
  ·rename_i c r hg
   obtain ⟨⟨g1,g2⟩,g3⟩:=hE.det hd
   refine ⟨d.con,g1,g2,g3,fun e=>(by cases e),⟨c,r,hg,h.1⟩,fun e=>(by cases e),fun r' ⟨c2,hr⟩=>?_⟩
   rw [hg] at hr
   obtain ⟨_,rfl⟩:=Prod.mk.inj (Option.some.inj hr)
   exact h.2
  ·exact h.elim
 split at h
 ·rename_i C hC
  obtain ⟨h1,h2,h3⟩:=h
  obtain ⟨⟨g1,g2⟩,g3⟩:=hE.get hC
  exact ⟨C,g1,g2,g3,fun e=>by rw [hE.dr];exact (h1 e).1,h2,fun e=>(h1 e).2,h3⟩
 ·exact h.elim
theorem callA_mono {tb:Tb} {f:FuncId} {ys:List AV} {st:St} {dst:Option Nat} {K K':St→Prop} (hk:∀ st',K st'→K' st') (h:callA tb f ys st dst K):callA tb f ys st dst K':=by
 unfold callA at *
 repeat' split at h
 all_goals (try exact h.elim)
 all_goals (try (simp only [*,-h]))
 all_goals first
  | exact ⟨h.1,hk _ h.2⟩
  | exact ⟨h.1,h.2.1,fun r hr=>hk _ (h.2.2 r hr)⟩
def xsOf:AV→Option (Nat × Nat × Nat × Nat × Nat)
 | .xs k off n cap sz=>some (k,off,n,cap,sz)
 | _=>none
theorem xsOf_ok {x:AV} {k off n cap sz:Nat} (h:xsOf x=some (k,off,n,cap,sz)):x = .xs k off n cap sz:=by
 unfold xsOf at h
 split at h
 ·simp only [Option.some.injEq,Prod.mk.injEq] at h
  obtain ⟨rfl,rfl,rfl,rfl,rfl⟩:=h;rfl
 ·cases h
/-- what is copied from -/
def srcL (m:List (Nat × List AV)) (sz:Nat):AV→Option (Prop × Nat × List AV)
 | .xs k2 off2 n2 _ sz2=>match lkm k2 m with
  | some ls2=>some (sz2=sz∧off2 + n2 * sz≤ls2.length,n2,ls2.drop off2)
  | none=>none
 | y=>match y.els with
  | some ys=>some (∀ row ∈ ys,row.length=sz,ys.length,flatA ys)
  | none=>none
theorem srcL_ok {st:St} {sz:Nat} {y:Operand} {c1:Prop} {m:Nat} {srcA:List AV} (h:srcL st.m sz (st.ev y)=some (c1,m,srcA)) (hc:c1):SrcOk st sz y m srcA:=by
 unfold srcL at h
 split at h
 ·rename_i k2 off2 n2 cap2 sz2 hy
  split at h
  ·rename_i ls2 hl2
   simp only [Option.some.injEq,Prod.mk.injEq] at h
   obtain ⟨rfl,rfl,rfl⟩:=h
   obtain ⟨rfl,q5⟩:=hc
   exact .inr ⟨k2,off2,cap2,ls2,hy,hl2,rfl,q5⟩
  ·cases h
 ·split at h
  ·rename_i ys hys
   simp only [Option.some.injEq,Prod.mk.injEq] at h
   obtain ⟨rfl,rfl,rfl⟩:=h
   exact .inl ⟨ys,hys,hc,rfl,rfl⟩
  ·cases h
/-- a call that lends boxes -/
def callM (C:ConM) (ρ φ:List (Nat × Nat)) (args:List AV) (st:St) (dst:Option Nat) (K:St→Prop):Prop :=
 match lentM (fun k=>nlkR k ρ) st.m ρ with
 | some m1=>C.pre args m1∧∀ r m2,C.post args m1 r m2→K (st.calledM ρ φ m2 r dst)
 | none=>False
theorem callM_mono {C:ConM} {ρ φ:List (Nat × Nat)} {args:List AV} {st:St} {dst:Option Nat} {K K':St→Prop} (hk:∀ st',K st'→K' st') (h:callM C ρ φ args st dst K):callM C ρ φ args st dst K':=by
 unfold callM at *
 split at h
 ·exact ⟨h.1,fun r m2 hr=>hk _ (h.2 r m2 hr)⟩
 ·exact h.elim
/-- the boxes that the arguments look at are lent,as 1000,1001,.. -/
def rhoA (n:Nat):List AV→List (Nat × Nat)
 | []=>[]
 | x::l=>match x with
  | .xs k _ _ _ _=>(n,k)::rhoA (n + 1) l
  | .loc k _=>(n,k)::rhoA (n + 1) l
  | .mr k=>(n + 1000,k)::rhoA (n + 1) l
  | .agg [_,_,.xs k _ _ _ _]=>(n,k)::rhoA (n + 1) l
  | _=>rhoA n l
/-- the caller's names for new boxes: shifted by the slot of the call -/
def shf (n:Nat):List (Nat × Nat)→List (Nat × Nat)
 | []=>[]
 | (a,b)::l=>(a,b + n)::shf n l
def dN:Option Nat→Nat | some d=>d | none=>0
/-- all boxes that are reached by pointers,in turn -/
def rhoS (m:List (Nat × List AV)):Nat→Nat→List AV→List (Nat × Nat)→List (Nat × Nat)
 | 0,_,_,ρ=>ρ
 | _,_,[],ρ=>ρ
 | f + 1,n,x::l,ρ=>match x with
  | .loc k _=>match hasR k ρ with
   | true=>rhoS m f n l ρ
   | false=>match lkm k m with
    | some ls=>rhoS m f (n + 1) (l++ls) (ρ++[(n,k)])
    | none=>rhoS m f n l ρ
  | .mr k=>match hasR k ρ with
   | true=>rhoS m f n l ρ
   | false=>match lkm k m with
    | some ls=>rhoS m f (n + 1) (l++ls) (ρ++[(n + 1000,k)])
    | none=>rhoS m f n l ρ
  | _=>rhoS m f n l ρ
/-- the boxes that are lent: those that the arguments look at,or (ρ0 is not empty) all that are reached -/
def rhoC (ρ0:List (Nat × Nat)) (m:List (Nat × List AV)) (args:List AV):List (Nat × Nat) :=
 match ρ0 with
 | []=>rhoA 1000 args
 | _=>rhoS m 80 1000 args []
def callR (C:ConM) (ρ0 φ:List (Nat × Nat)) (args:List AV) (st:St) (dst:Option Nat) (K:St→Prop):Prop :=
 okN (rhoC ρ0 st.m args) (shf (dN dst) φ)∧callM C (rhoC ρ0 st.m args) (shf (dN dst) φ) (args.map fun x=>x.mvn fun k=>nlkR k (rhoC ρ0 st.m args)) st dst K
theorem callR_mono {C:ConM} {ρ0 φ:List (Nat × Nat)} {args:List AV} {st:St} {dst:Option Nat} {K K':St→Prop} (hk:∀ st',K st'→K' st') (h:callR C ρ0 φ args st dst K):callR C ρ0 φ args st dst K':=⟨h.1,callM_mono hk h.2⟩
/-- is a slice nil -/
def nilS:AV→Option (Bool→Prop)
 | .nl=>some fun b=>b=true
 | .xs _ _ _ _ _=>some fun b=>b=false
 | .sl _ els=>some fun b=>els≠[]→b=false
 | _=>none
theorem op_slnil {E:En} {o:Oper} {st:St} {a:Act} {w:World} (h:R E st a w) (op:BinOp) (t t' e:TypeId) (x:Operand) (ho:o.op = .binOp op t x (.const (.slice none 0 0)) t') (ht:E.P.underlying t=some (.slice e)) {q:Bool→Prop} (hq:nilS (st.ev x)=some q)
  (hop:(nilR op true).isSome=true):∃ b r,q b∧nilR op b=some r∧Yields E o (st.put o.dst (.v (.bool r))) a w:=by
 obtain ⟨c,h1,h2,h3,h4,h5,h6⟩:=h.get x
 have key:∃ p n k,a.eval x = .slice p n k∧q p.isNone:=by
  unfold nilS at hq
  split at hq
  ·rename_i hx
   obtain rfl:=Option.some.inj hq
   rw [hx] at h6;generalize a.eval x=z at h6 ⊢;cases h6
   exact ⟨none,0,0,rfl,rfl⟩
  ·rename_i hx
   obtain rfl:=Option.some.inj hq
   rw [hx] at h6;generalize a.eval x=z at h6 ⊢;cases h6
   exact ⟨_,_,_,rfl,rfl⟩
  ·rename_i hx
   obtain rfl:=Option.some.inj hq
   rw [hx] at h6;generalize a.eval x=z at h6 ⊢
   cases h6 with
   | sl _ _ _ hd _=>cases hd with
    | nil=>exact ⟨none,0,0,rfl,fun hn=>absurd rfl hn⟩
    | sl=>exact ⟨_,_,_,rfl,fun _=>rfl⟩
  ·cases hq
 obtain ⟨p,n,k,hv,hp⟩:=key
 have e2:a.eval (.const (.slice none 0 0)) = .slice none 0 0:=rfl
 have q1:=run_equal_slice_nil (P:=E.P) w t e p n k ht
 have b1:binOp .eql t (.slice p n k) (.slice none 0 0)=(do pure (.bool (← Op.equal t (.slice p n k) (.slice none 0 0)))):=rfl
 have b2:binOp .neq t (.slice p n k) (.slice none 0 0)=(do pure (.bool (!(← Op.equal t (.slice p n k) (.slice none 0 0))))):=rfl
 have hcase:(op = .eql∧nilR op p.isNone=some p.isNone)∨(op = .neq∧nilR op p.isNone=some (!p.isNone)):=by
  cases op<;>simp_all [nilR]
 rcases hcase with ⟨rfl,hr⟩ | ⟨rfl,hr⟩
 ·refine ⟨_,_,hp,hr,_,w,?_,R.put h1 h2 h3 h4 h5 (.v (.bool p.isNone) rfl)⟩
  unfold execOp;rw [ho]
  simp only [hv,e2,eqGuard_at_slice,b1,Sem.run_bind,Sem.run_pure,Result.andThen_ok,q1]
 ·refine ⟨_,_,hp,hr,_,w,?_,R.put h1 h2 h3 h4 h5 (.v (.bool (!p.isNone)) rfl)⟩
  unfold execOp;rw [ho]
  simp only [hv,e2,eqGuard_at_slice,b2,Sem.run_bind,Sem.run_pure,Result.andThen_ok,q1]
theorem op_append_nl {E : En} {o : Oper} {st : St} {a : Act} {w : World} (h : R E st a w) (d : Nat) (hdl : d < 920) (hd : o.dst = some d) (t : TypeId) (x y : Operand) (ho : o.op = .call { callee := .builtin .append, args := #[x, y], argTypes := #[t, t] }) {i ie : TyI} (ht : TyOk E.P t i) {e : TypeId} (he : i.elem = some e) (hte : TyOk E.P e ie)
    (hx : st.ev x = .nl) {sz m : Nat} {srcA : List AV} (hy : SrcOk st sz y m srcA) (hleaf : ∀ z ∈ srcA.take (m * sz), (∀ l, z ≠ .agg l) ∧ z.leaves.isSome = true) (hsz : sz = ie.size) (hm : 0 < m) (hlen : m ≤ 4294967296)
    {next : Act → World → Prop} {Q : Exit → Act → World → Prop}
    (hr2 : ∀ cap', m ≤ cap' → ∀ a' w', R E (St.put { (st.stripL d) with m := (d, AV.stripLAll d (srcA.take (m * sz) ++ List.replicate ((cap' - m) * sz) .junk)) :: (st.stripL d).m } (some d) (.xs d 0 m cap' sz)) a' w' → next a' w') :
    o.wp E.P a w next Q := by
  have h0 := h
  obtain ⟨c, h1, h2, h3, h4, h5, h6⟩ := h.get x
  have hv : a.eval x = .slice none 0 0 := by rw [hx] at h6; generalize a.eval x = u at h6; cases h6; rfl
  obtain ⟨q, z, dd, g1, g2, g3, g4, g5, g6, g7, g8⟩ := hte.inf
  have hqs : q.size = sz := by omega
  have hzs : z.cells.size = q.size := by rw [g5, g2]
  have hbytes : m * q.bytes ≤ 140737488355328 := by
    have := Nat.mul_le_mul hlen g6; omega
  have fin : ∀ v' w', (Builtin.append_ #[t, t] o.type #[a.eval x, a.eval y]).run E.P w = .ok v' w' → next (a.put o.dst v') w' → o.wp E.P a w next Q := fun v' w' hr hn => by
    unfold Oper.wp
    have : (execOp a.eval o).run E.P w = .ok (.value v') w' := by
      unfold execOp; rw [ho]
      simp [resolve, invoke, BigFrame.builtin_append, hr]
    rw [this]; exact hn
  rcases src_vals h2 h3 hy hleaf with ⟨rfl, rfl, hyv⟩ | ⟨yb, yoff, ycap, news, hyv, hnl, hflen, hnc', hone, hnr⟩
  · omega
  · have hr := run_append_nil (P := E.P) w t o.type e q z (ht.el e he) g1 g3 ⟨yb, yoff, none⟩ m ycap news (by rw [hqs]; exact hnl) (fun j u hu => by rw [← h1]; exact hnc' j u hu) hm (by omega) (by omega)
    have hge := grownCap_ge w m 0 e
    refine fin _ _ (by rw [hv, hyv]; exact hr) ?_
    rw [hd]
    refine hr2 (grownCap w m 0 e) hge _ _ ?_
    have hkd : Keeps c.w c.S w.drew c.S := by subst h1; exact Keeps.same (fun _ _ h => h) fun _ _ _ => rfl
    have h2' : Good E st.m st.rn { c with w := w.drew } := by
      subst h1
      have hk : ∀ {x v}, Rd c x v → Rd { c with w := c.w.drew } x v := fun h => h.keep (c' := { c with w := c.w.drew }) hkd rfl rfl rfl rfl
      exact { bl := h2.bl, cg := h2.cg, fr := grownL_of h2.fr rfl rfl rfl (Nat.le_refl _) (fun _ _ _ => rfl), lx := h2.lx, sx := h2.sx, s1 := h2.s1, sS := h2.sS, sg := h2.sg,
              box := fun d ls hl => by
                obtain ⟨cs, T, h1, h2, h3, h4, h5⟩ := h2.box d ls hl
                exact ⟨cs, T, h1, h2, h3, fun j x hx => hk (h4 j x hx), h5⟩
              boxinj := h2.boxinj, tok := h2.tok, toktok := h2.toktok, tokbox := h2.tokbox, rk := h2.rk }
    have hk : ∀ {x v}, Rd c x v → Rd { c with w := w.drew } x v := fun h => h.keep (c' := { c with w := w.drew }) hkd rfl rfl rfl rfl
    refine R.newboxG (c := { c with w := w.drew }) rfl h2' (fun x => hk (h3 x)) h4 h5 d hdl _ _ e ?_ (fun j x hx => ?_) _ _ (fun c' h => by rw [show w.heap.size = c'.β d from h.symm]; exact .xs d 0 _ _ sz hge (bk_lt hdl))
    · simp only [Array.size_append, List.size_toArray, size_zeroCells, hzs, List.length_append, List.length_replicate, hnl, hqs, hflen]
    · rw [Array.getD_eq_getD_getElem?, ← Array.getElem?_toList]
      simp only [Array.toList_append] at hx ⊢
      by_cases hj2 : j < m * sz
      · rw [List.getElem?_append_left (by rw [hflen]; exact hj2)] at hx
        rw [List.getElem?_append_left (by rw [hnl]; exact hj2)]
        have hnn := List.getElem?_eq_getElem (l := news) (i := j) (by rw [hnl]; exact hj2)
        rw [hnn]
        exact hk (hnr _ x _ hx hnn)
      · rw [List.getElem?_append_right (by rw [hflen]; omega)] at hx
        obtain ⟨_, rfl⟩ := List.getElem?_eq_some_iff.1 hx
        simp only [List.getElem_replicate]
        exact .junk _

def memN (d:Nat):List Nat→Bool
 | []=>false
 | x::l=>if d=x then true else memN d l
/-- nil is appended to,a view is to come -/
def isNlX (x:AV) (dst:Option Nat) (X:List Nat):Bool:=match x with
 | .nl=>(match dst with | some d=>memN d X | none=>false)
 | _=>false
theorem isNlX_ok {x:AV} {dst:Option Nat} {X:List Nat} (h:isNlX x dst X=true):x = .nl:=by
 unfold isNlX at h
 split at h
 ·rfl
 ·cases h
def isEmpB (T:List (TypeId × TyI)) (t:TypeId):List (Nat × Operand)→Bool
 | []=>match tyk t T with
  | some i=>i.emp
  | none=>false
 | _=>false
/-- the step of an operation -/
def stp (tb : Tb) (o : Oper) (st : St) (K : St → Prop) : Prop :=
  match o.op with
  | .alloc t => match o.dst, tyk t tb.T with
    | some d, some i => d < 920 ∧ K (newbox st d (i.zero.map leafOf))
    | _, _ => False
  | .box _ x => match o.dst, (st.ev x).leaves with
    | some d, some ls => d < 920 ∧ K (newbox st d ls)
    | _, _ => False
  | .store t x y => match o.dst, st.ev x, tyk t tb.T, (st.ev y).leaves with
    | none, .loc d off, some i, some xs => match lkm d st.m with
      | some ls => (xs.length = i.size ∧ off + xs.length ≤ ls.length ∧ allLeaf xs = true) ∧ K { st with m := repm d (setL ls off xs) st.m }
      | none => False
    | _, _, _, _ => False
  | .buildSlice t n parts => match o.dst, elt tb.T t, dop.partsE st.ev parts.toList with
    | some d, some (e, ie), some ps => match fillL (fun k => some (k * ie.size, ie.size)) (List.replicate (n * ie.size) .junk) ps with
      | some rs => match tb.X.contains d with
       | true => (0 < ie.size ∧ n * ie.size ≤ 16777216 ∧ d < 920) ∧ K (St.put { (st.stripL d) with m := (d, AV.stripLAll d rs) :: (st.stripL d).m } (some d) (.xs d 0 n n ie.size))
       | false => match DV.ofAll rs with
        | some ys => (0 < ie.size ∧ n * ie.size ≤ 16777216) ∧ K ((st.strip d).put (some d) (.sl (some (d, 0, e)) (chunks ie.size n ys)))
        | none => False
      | none => False
    | _, _, _ => False
  | .makeInterface t x => match st.ev x with
    | .loc d off => match lkm d st.m, tyk t tb.T with
      | some ls, some i => match DV.ofAll ls with
        | some ys => (frzOk tb d st.m ∧ i.np = true) ∧ K ((st.frz d ys).put o.dst (.dv (.ifc t (.ptr (ys.drop off)))))
        | none => False
      | _, _ => False
    | _ => match dop tb.T tb.gl o.op st.ev (fun k => lkm k st.m) with
      | some (c, r) => c ∧ K (st.put o.dst r)
      | none => False
  | .makeFunc (.func f) first caps => match first.toList, frzC caps.toList st with
    | [], some st' => match capsL st'.ev caps.toList with
      | some r => tb.lent = false ∧ K (st'.put o.dst (.dv (.fn f r)))
      | none => False
    | _, _ => False
  | .makeSlice t x y => match o.dst, elt tb.T t, st.ev x, st.ev y with
    | some d, some (e, ie), .v (.int _ n), .v (.int _ m) => match tb.X.contains d with
      | true => ((0 ≤ n ∧ n ≤ m) ∧ m ≤ 4294967296 ∧ d < 920) ∧ K (St.put { (st.stripL d) with m := (d, AV.stripLAll d (List.replicate m.toNat (ie.zero.map leafOf)).flatten) :: (st.stripL d).m } (some d) (.xs d 0 n.toNat m.toNat ie.size))
      | false => ((0 ≤ n ∧ n ≤ m) ∧ m ≤ 4294967296 ∧ (ie.zero.all fun u => u.oneCell') = true) ∧ K ((st.strip d).put (some d) (.sl (some (d, 0, e)) (List.replicate n.toNat (ie.zero.map zeroD))))
    | _, _, _, _ => False
  | .call c => match c.callee with
    | .builtin .append => match c.args.toList, c.argTypes.toList with
      | [x, y], [t, t'] => match xsOf (st.ev x) with
       | some (k, off, n, cap, sz) => match o.dst, elt tb.T t, lkm k st.m with
        | some d, some (e, ie), some ls => match st.ev y with
          | .v (.int _ z) => match tyk t' tb.T with
            | some it => ((0 ≤ z ∧ it.ik.isSome = true ∧ d < 920) ∧ sz = ie.size ∧ 0 < sz ∧ n + z.toNat ≤ 4294967296 ∧ cap < n + z.toNat ∧ off + n * sz ≤ ls.length) ∧ ∀ cap', n + z.toNat ≤ cap' → K (St.put { (st.stripL d) with m := (d, AV.stripLAll d ((ls.drop off).take (n * sz) ++ List.replicate ((cap' - n) * sz) .junk)) :: (st.stripL d).m } (some d) (.xs d 0 (n + z.toNat) cap' sz))
            | none => False
          | y' => match srcL st.m sz y' with
            | some (c1, m, srcA) => ((t = t' ∧ d < 920) ∧ c1 ∧ sz = ie.size ∧ n + m ≤ 4294967296 ∧ off + cap * sz ≤ ls.length ∧ allLeaf (srcA.take (m * sz)) = true) ∧ (n + m ≤ cap → K (St.put { st with m := repm k (setL ls (off + n * sz) (srcA.take (m * sz))) st.m } (some d) (.xs k off (n + m) cap sz))) ∧
                (cap < n + m → ∀ cap', n + m ≤ cap' → K (St.put { (st.stripL d) with m := (d, AV.stripLAll d ((ls.drop off).take (n * sz) ++ srcA.take (m * sz) ++ List.replicate ((cap' - (n + m)) * sz) .junk)) :: (st.stripL d).m } (some d) (.xs d 0 (n + m) cap' sz)))
            | none => False
        | _, _, _ => False
       | none => match isNlX (st.ev x) o.dst tb.X with
        | true => (match o.dst, elt tb.T t with
         | some d, some (_, ie) => match srcL st.m ie.size (st.ev y) with
          | some (c1, m, srcA) => ((t = t' ∧ d < 920) ∧ c1 ∧ 0 < m ∧ m ≤ 4294967296 ∧ allLeaf (srcA.take (m * ie.size)) = true) ∧ ∀ cap', m ≤ cap' → K (St.put { (st.stripL d) with m := (d, AV.stripLAll d (srcA.take (m * ie.size) ++ List.replicate ((cap' - m) * ie.size) .junk)) :: (st.stripL d).m } (some d) (.xs d 0 m cap' ie.size))
          | none => False
         | _, _ => False)
        | false => match o.dst, elt tb.T t with
        | some d, some (e, ie) => match ownOf d e (st.ev x), (st.ev y).els with
          | some (s, els), some ys => (t = t' ∧ (∀ row ∈ els ++ ys, row.length = ie.size) ∧ els.length + ys.length ≤ 4294967296) ∧ K ((st.strip2 s d).put (some d) (.sl (some (d, 0, e)) (els ++ ys)))
          | _, _ => False
        | _, _ => False
      | _, _ => False
    | .builtin .copy => match c.args.toList, c.argTypes.toList with
      | [x, y], [t, _] => match st.ev x, elt tb.T t with
        | .xs k off n _ sz, some (_, ie) => match lkm k st.m with
          | some ls => match srcL st.m sz (st.ev y) with
            | some (c1, m, srcA) => (c1 ∧ sz = ie.size ∧ off + (min m n) * sz ≤ ls.length ∧ allLeaf (srcA.take ((min m n) * sz)) = true) ∧ K (St.put { st with m := repm k (setL ls off (srcA.take ((min m n) * sz))) st.m } o.dst (.v (.int .i64 (min m n : Nat))))
            | none => False
          | none => False
        | _, _ => False
      | _, _ => False
    | .builtin .clear => match c.args.toList, c.argTypes.toList with
      | [x], [t] => match st.ev x, elt tb.T t with
        | .xs k off n _ sz, some (_, ie) => match lkm k st.m with
          | some ls => (sz = ie.size ∧ off + n * sz ≤ ls.length ∧ (ie.zero.all fun u => u.oneCell') = true) ∧ K (St.put { st with m := repm k (setL ls off (List.replicate n (ie.zero.map leafOf)).flatten) st.m } o.dst (.tup []))
          | none => False
        | _, _ => False
      | _, _ => False
    | .value fo => match st.ev fo with
      | .dv (.fn f caps) => callA tb f (argsE st c.args.toList ++ caps.map DV.toAV) st o.dst K
      | x => match fnOf x with
        | some f => match exk f tb.EX with
         | some g => match g (c.args.toList.map st.ev) st.m with
           | some (cc, r) => cc ∧ K (st.put o.dst r)
           | none => False
         | none => match mmk f tb.MM with
          | some (C, ρ0, φ) => callR C ρ0 φ (c.args.toList.map st.ev) st o.dst K
          | none => callA tb f (argsE st c.args.toList) st o.dst K
        | none => False
    | .invoke xo name => match ifcOf (st.ev xo) with
      | some (t, y) => match mk t tb.M with
        | some (s, f) => s = name ∧ callA tb f (y :: argsE st c.args.toList) st o.dst K
        | none => False
      | none => False
    | _ => match dop tb.T tb.gl o.op st.ev (fun k => lkm k st.m) with
      | some (c, r) => c ∧ K (st.put o.dst r)
      | none => False
  | .binOp op t x (.const (.slice none 0 0)) _ => match nilS (st.ev x), elt tb.T t with
    | some q, some _ => (nilR op true).isSome = true ∧ ∀ b r, q b → nilR op b = some r → K (st.put o.dst (.v (.bool r)))
    | _, _ => False
  | .typeAssert x _ t true => match ifcOf (st.ev x), tyk t tb.T with
    | some (d, y), some i => i.np = true ∧ K (st.put o.dst (asrt d t y))
    | _, _ => False
  | .build t parts => match isEmpB tb.T t parts.toList with
    | true => K (st.put o.dst (.agg []))
    | false => match dop tb.T tb.gl o.op st.ev (fun k => lkm k st.m) with
      | some (c, r) => c ∧ K (st.put o.dst r)
      | none => False
  | _ => match dop tb.T tb.gl o.op st.ev (fun k => lkm k st.m) with
    | some (c, r) => c ∧ K (st.put o.dst r)
    | none => False

theorem arr2 {α:Type} {a:Array α} {x y:α} (h:a.toList=[x,y]):a = #[x,y]:=by
 apply Array.ext';simpa using h
theorem stp_ok {E:En} {tb:Tb} (hE:TbOk E tb) {o:Oper} {st:St} {a:Act} {w:World} (h:R E st a w) {K:St→Prop} (hs:stp tb o st K) {next:Act→World→Prop} {Q:Exit→Act→World→Prop} (hn:∀ st' a' w',R E st' a' w'→K st'→next a' w'):o.wp E.P a w next Q:=by
 have hdop:(match dop tb.T tb.gl o.op st.ev (fun k=>lkm k st.m) with | some (c,r)=>c∧K (st.put o.dst r) | none=>False)→o.wp E.P a w next Q:=by
  intro hs
  split at hs
  ·rename_i c r hd
   exact (dop_ok h hE.T (hgl_of hE h) hd hs.1).wp fun a' w' h'=>hn _ _ _ h' hs.2
  ·exact hs.elim
 unfold stp at hs
 split at hs
 case h_1 t ho =>
  split at hs
  ·rename_i d i hd hi
   exact (op_alloc h d hs.1 hd t ho (hE.T.get hi)).wp fun a' w' h'=>hn _ _ _ h' hs.2
  ·exact hs.elim
 case h_2 t x ho =>
  split at hs
  ·rename_i d ls hd hl
   exact (op_box h d hs.1 hd t x ho hl).wp fun a' w' h'=>hn _ _ _ h' hs.2
  ·exact hs.elim
 case h_3 t x y ho =>
  split at hs
  ·rename_i d off i xs hd hx hi hy
   split at hs
   ·rename_i ls hl
    obtain ⟨⟨h1,h2,h3⟩,hk⟩:=hs
    obtain ⟨w',r1,r2⟩:=op_store h t x y ho hd (hE.T.get hi) hx hl hy h1 h2 (allLeaf_ok h3)
    unfold Oper.wp
    rw [r1]
    exact hn _ _ _ r2 hk
   ·exact hs.elim
  ·exact hs.elim
 case h_4 t n parts ho =>
  split at hs
  ·rename_i d e ie ps hd he hp
   split at hs
   ·rename_i rs hrs
    split at hs
    ·rw [partsE_eq] at hp
     obtain ⟨i,h1,h2,h3⟩:=elt_ok hE.T he
     exact (op_buildSlice_xs h d hs.1.2.2 hd t n parts ho h1 h2 h3 hs.1.1 hs.1.2.1 hp hrs).wp fun a' w' h'=>hn _ _ _ h' hs.2
    split at hs
    ·rename_i ys hys
     rw [partsE_eq] at hp
     obtain ⟨i,h1,h2,h3⟩:=elt_ok hE.T he
     exact (op_buildSlice h d hd t n parts ho h1 h2 h3 hs.1.1 hs.1.2 hp hrs hys).wp fun a' w' h'=>hn _ _ _ h' hs.2
    ·exact hs.elim
   ·exact hs.elim
  ·exact hs.elim
 case h_5 t x ho =>
  split at hs
  ·rename_i d off hx
   split at hs
   ·rename_i ls i hl hi
    split at hs
    ·rename_i ys hys
     exact (op_makeIfaceBox h (frzOk_ok hE hl hs.1.1) t x ho (hE.T.get hi) hs.1.2 hx hl hys).wp fun a' w' h'=>hn _ _ _ h' hs.2
    ·exact hs.elim
   ·exact hs.elim
  ·exact hdop hs
 case h_6 f first caps ho =>
  split at hs
  ·rename_i st' h1 h2
   split at hs
   ·rename_i r hr
    have hf:first = #[]:=by apply Array.ext';simpa using h1
    subst hf
    exact (op_makeFunc (frzC_ok (hE.nl hs.1) _ _ _ h h2) f caps ho hr).wp fun a' w' h'=>hn _ _ _ h' hs.2
   ·exact hs.elim
  ·exact hs.elim
 case h_7 t x y ho =>
  split at hs
  ·rename_i d e ie kn n km m hd he hx hy
   obtain ⟨i,h1,h2,h3⟩:=elt_ok hE.T he
   split at hs
   ·exact (op_makeSlice_xs h d hs.1.2.2 hd t x y ho h1 h2 h3 hx hy hs.1.1.1 hs.1.1.2 hs.1.2.1).wp fun a' w' h'=>hn _ _ _ h' hs.2
   exact (op_makeSlice h d hd t x y ho h1 h2 h3 hx hy hs.1.1.1 hs.1.1.2 hs.1.2.1 hs.1.2.2).wp fun a' w' h'=>by
    rw [hd] at *
    exact hn _ _ _ h' hs.2
  ·exact hs.elim
 case h_8 c ho =>
  split at hs
  ·rename_i hc
   split at hs
   ·rename_i x y t t' hx ht
    split at hs
    ·rename_i kk off n cap sz hxs0
     have hxs:=xsOf_ok hxs0
     split at hs
     ·rename_i d e ie ls hd he hl
      obtain ⟨callee,args,ats⟩:=c
      simp only at hc hx ht
      subst hc
      have e1:=arr2 hx
      have e2:=arr2 ht
      subst e1;subst e2
      obtain ⟨i,i1,i2,i3⟩:=elt_ok hE.T he
      split at hs
      ·rename_i kd z hyz
       split at hs
       ·rename_i it hit
        obtain ⟨⟨⟨q1,q2,q3⟩,q4,q5,q6,q7,q8⟩,hk⟩:=hs
        obtain ⟨ik,hik⟩:=Option.isSome_iff_exists.1 q2
        exact op_append_zero_xs h d q3 hd t t' x y ho i1 i2 i3 (hE.T.get hit) hik hxs hyz q1 q4 q5 q6 q7 hl q8 fun cap' hcap a' w' h'=>hn _ _ _ h' (hk cap' hcap)
       ·exact hs.elim
      ·split at hs
       ·rename_i c1 m srcA hsrc
        obtain ⟨⟨⟨rfl,q3⟩,q0,q4,q6,q7,q8⟩,hk1,hk2⟩:=hs
        exact op_append_xs h d q3 hd t x y ho i1 i2 i3 hxs (srcL_ok hsrc q0) (allLeaf_ok q8) q4 q6 hl q7 (fun hr a' w' h'=>hn _ _ _ h' (hk1 hr)) (fun hr cap' hcap a' w' h'=>hn _ _ _ h' (hk2 hr cap' hcap))
       ·exact hs.elim
     ·exact hs.elim
    split at hs
    ·rename_i hnx
     split at hs
     ·rename_i d e ie hd he
      split at hs
      ·rename_i c1 m srcA hsrc
       obtain ⟨⟨⟨rfl,q3⟩,q0,q4,q6,q8⟩,hk⟩:=hs
       obtain ⟨callee,args,ats⟩:=c
       simp only at hc hx ht
       subst hc
       obtain rfl:=arr2 hx
       obtain rfl:=arr2 ht
       obtain ⟨i,i1,i2,i3⟩:=elt_ok hE.T he
       exact op_append_nl h d q3 hd t x y ho i1 i2 i3 (isNlX_ok hnx) (srcL_ok hsrc q0) (allLeaf_ok q8) rfl q4 q6 fun cap' hcap a' w' h'=>hn _ _ _ h' (hk cap' hcap)
      ·exact hs.elim
     ·exact hs.elim
    split at hs
    ·rename_i d e ie hd he
     split at hs
     ·rename_i s els ys hown hys
      obtain ⟨⟨rfl,h1,h2⟩,hk⟩:=hs
      obtain ⟨callee,args,ats⟩:=c
      simp only at hc hx ht
      subst hc
      have e1:=arr2 hx
      have e2:=arr2 ht
      subst e1;subst e2
      obtain ⟨i,i1,i2,i3⟩:=elt_ok hE.T he
      have key:(st.ev x = .nl∧els=[]∧s=d)∨∃ j,st.ev x = .sl (some (s,j,e)) els:=by
       unfold ownOf at hown
       split at hown
       ·rename_i hx'
        obtain ⟨rfl,rfl⟩:=Prod.mk.inj (Option.some.inj hown)
        exact .inl ⟨hx',rfl,rfl⟩
       ·rename_i s' j e' els' hx'
        split at hown
        ·rename_i hee
         subst hee
         obtain ⟨rfl,rfl⟩:=Prod.mk.inj (Option.some.inj hown)
         exact .inr ⟨j,hx'⟩
        ·cases hown
       ·cases hown
      exact (op_append h d hd t x y ho i1 i2 i3 key hys h1 h2).wp fun a' w' h'=>hn _ _ _ h' hk
     ·exact hs.elim
    ·exact hs.elim
   ·exact hs.elim
  ·rename_i hc
   split at hs
   ·rename_i x y t t' hx ht
    split at hs
    ·rename_i kk off n cap sz e ie hxs he
     split at hs
     ·rename_i ls hl
      split at hs
      ·rename_i c1 m srcA hsrc
       obtain ⟨callee,args,ats⟩:=c
       simp only at hc hx ht
       subst hc
       have e1:=arr2 hx
       have e2:=arr2 ht
       subst e1;subst e2
       obtain ⟨i,i1,i2,i3⟩:=elt_ok hE.T he
       obtain ⟨⟨q1,q2,q3,q4⟩,hk⟩:=hs
       refine (op_copy_xs h t t' x y ho i1 i2 i3 hxs q2 hl (m:=m) (srcA:=srcA) ?_ q3 (allLeaf_ok q4)).wp fun a' w' h'=>hn _ _ _ h' hk
       unfold srcL at hsrc
       split at hsrc
       ·rename_i k2 off2 n2 cap2 sz2 hy
        split at hsrc
        ·rename_i ls2 hl2
         simp only [Option.some.injEq,Prod.mk.injEq] at hsrc
         obtain ⟨rfl,rfl,rfl⟩:=hsrc
         obtain ⟨rfl,q5⟩:=q1
         exact .inr ⟨k2,off2,cap2,ls2,hy,hl2,rfl,q5⟩
        ·cases hsrc
       ·split at hsrc
        ·rename_i ys hys
         simp only [Option.some.injEq,Prod.mk.injEq] at hsrc
         obtain ⟨rfl,rfl,rfl⟩:=hsrc
         exact .inl ⟨ys,hys,q1,rfl,rfl⟩
        ·cases hsrc
      ·exact hs.elim
     ·exact hs.elim
    ·exact hs.elim
   ·exact hs.elim
  ·rename_i hc
   split at hs
   ·rename_i x t hx ht
    split at hs
    ·rename_i kk off n cap sz e ie hxs he
     split at hs
     ·rename_i ls hl
      obtain ⟨callee,args,ats⟩:=c
      simp only at hc hx ht
      subst hc
      have e1:=arr1 hx
      have e2:=arr1 ht
      subst e1;subst e2
      obtain ⟨i,i1,i2,i3⟩:=elt_ok hE.T he
      exact (op_clear_xs h t x ho i1 i2 i3 hxs hs.1.1 hl hs.1.2.1 hs.1.2.2).wp fun a' w' h'=>hn _ _ _ h' hs.2
     ·exact hs.elim
    ·exact hs.elim
   ·exact hs.elim
  ·rename_i fo hc
   obtain ⟨callee,args,ats⟩:=c
   simp only at hc hs
   subst hc
   rw [argsE_eq] at hs
   split at hs
   ·rename_i f caps hf
    obtain ⟨C,k1,k2,k3,k4,k5,k6,k7⟩:=callA_ok hE hs
    exact op_callFn h f caps fo args ats ho hf k1 k2 k3 k4 k5 k6 fun r hr a' w' h'=>hn _ _ _ h' (k7 r hr)
   ·split at hs
    ·rename_i f hf
     split at hs
     ·rename_i g hg
      split at hs
      ·rename_i cc r hgr
       exact (op_callX h f fo args ats ho (fnOf_ok hf) (hE.EX _ (exk_mem hg)) hgr hs.1).wp fun a' w' h'=>hn _ _ _ h' hs.2
      ·exact hs.elim
     split at hs
     ·rename_i C ρ φ hmm
      obtain ⟨⟨q1,q2⟩,_,q4⟩:=hE.MM _ (mmk_mem hmm)
      obtain ⟨q3,hs⟩:=hs
      generalize rhoC ρ st.m (List.map st.ev args.toList)=ρ at *
      generalize shf (dN o.dst) φ=φ at *
      rw [List.map_map] at hs
      unfold callM at hs
      split at hs
      ·rename_i m1 hm1
       exact op_callM h f fo args ats ho (fnOf_ok hf) q1 q2 q4 q3.names.1 q3.names.2 hm1 hs.1 fun r m2 hr a' w' h'=>hn _ _ _ h' (hs.2 r m2 hr)
      ·exact hs.elim
     obtain ⟨C,k1,k2,k3,k4,k5,k6,k7⟩:=callA_ok hE hs
     exact op_call h f fo args ats ho (fnOf_ok hf) k1 k2 k3 k4 k5 k6 fun r hr a' w' h'=>hn _ _ _ h' (k7 r hr)
    ·exact hs.elim
  ·rename_i xo name hc
   obtain ⟨callee,args,ats⟩:=c
   simp only at hc hs
   subst hc
   rw [argsE_eq] at hs
   split at hs
   ·rename_i t y hf
    split at hs
    ·rename_i s f hm
     obtain ⟨rfl,hs⟩:=hs
     obtain ⟨C,k1,k2,k3,k4,k5,k6,k7⟩:=callA_ok hE hs
     exact op_invoke h f t y xo _ args ats ho hf (hE.M _ (mk_mem hm)) k1 k2 k3 k4 k5 k6 fun r hr a' w' h'=>hn _ _ _ h' (k7 r hr)
    ·exact hs.elim
   ·exact hs.elim
  ·exact hdop hs
 case h_9 op t x t' ho =>
  split at hs
  ·rename_i q ei hq he
   obtain ⟨e,ie⟩:=ei
   obtain ⟨i,h1,h2,h3⟩:=elt_ok hE.T he
   obtain ⟨b,r,hb,hr,hy⟩:=op_slnil h op t t' e x ho (h1.el e h2) hq hs.1
   exact hy.wp fun a' w' h'=>hn _ _ _ h' (hs.2 b r hb hr)
  ·exact hs.elim
 case h_10 x xt t ho =>
  split at hs
  ·rename_i d y i hx hi
   exact (op_assert h x xt t ho (hE.T.get hi) hs.1 hx).wp fun a' w' h'=>hn _ _ _ h' hs.2
  ·exact hs.elim
 case h_11 t parts ho =>
  split at hs
  ·rename_i hb
   unfold isEmpB at hb
   split at hb
   ·rename_i hp
    split at hb
    ·rename_i i hi
     exact (op_build0 h t parts hp ho (hE.T.get hi) hb).wp fun a' w' h'=>hn _ _ _ h' hs
    ·cases hb
   ·cases hb
  ·exact hdop hs
 case h_12=>exact hdop hs
/-- slot d is known to hold v -/
def St.know (st:St) (d:Nat) (v:Bool):St:={ st with σ:=(d,.v (.bool v))::st.σ }
/-- by cases of b -/
def gs (b:Bool) (X Y:Prop):Prop:=(b=true→X)∧(b=false→Y)
theorem gs_true (X Y:Prop):gs true X Y=X:=by simp [gs]
theorem gs_false (X Y:Prop):gs false X Y=Y:=by simp [gs]
theorem gs_any (b:Bool) (X Y:Prop):gs b X Y=((b=true→X)∧(b=false→Y)):=rfl
/-- guards -/
def stpG (tb:Tb) (ops:List Oper) (o:Oper) (st:St) (K:St→Prop):Prop :=
 match o.guard with
 | none=>stp tb o st K
 | some (j,want)=>match ops[j]? with
  | some g=>match g.dst with
   | some d=>match lk d st.σ with
    | .v (.bool b)=>d < st.nt∧gs b (match want with | true=>stp tb o (st.know d true) K | false=>K ((st.know d true).put o.dst (.tup [])))
      (match want with | true=>K ((st.know d false).put o.dst (.tup [])) | false=>stp tb o (st.know d false) K)
    | .tup []=>K (st.put o.dst (.tup []))
    | _=>False
   | none=>False
  | none=>False
theorem lk_know {st:St} {d:Nat} {v:Bool} (h:lk d st.σ = .v (.bool v)) (x:Nat):lk x (st.know d v).σ=lk x st.σ:=by
 simp only [St.know,lk]
 split
 ·rename_i e;rw [e,h]
 ·rfl
theorem R.know {E:En} {st:St} {a:Act} {w:World} (h:R E st a w) {d:Nat} {v:Bool} (hv:lk d st.σ = .v (.bool v)):R E (st.know d v) a w:=by
 obtain ⟨c,h1,h2,h3,h4,h5⟩:=h
 exact ⟨c,h1,h2,fun x=>by rw [lk_know hv];exact h3 x,h4,h5⟩
theorem R.skipped {E:En} {st:St} {a:Act} {w:World} (h:R E st a w) (dst:Option Nat):R E (st.put dst (.tup [])) (a.put dst Go.undef) w:=by
 obtain ⟨c,h1,h2,h3,h4,h5⟩:=h
 exact R.put h1 h2 h3 h4 h5 (.tup [] #[] rfl (fun j x hx=>by simp at hx))
theorem stpG_ok {E:En} {tb:Tb} (hE:TbOk E tb) {ops:List Oper} {o:Oper} {st:St} {a:Act} {w:World} (h:R E st a w) {K:St→Prop} (hs:stpG tb ops o st K) {next:Act→World→Prop} {Q:Exit→Act→World→Prop} (hn:∀ st' a' w',R E st' a' w'→K st'→next a' w') :
  if Region.wanted o (yielded ops.toArray a.tmps) then o.wp E.P a w next Q else next (a.put o.dst undef) w:=by
 unfold stpG at hs
 split at hs
 ·rename_i hg
  rw [if_pos (by simp [Region.wanted,hg])]
  exact stp_ok hE h hs hn
 ·rename_i j want hg
  split at hs
  ·rename_i g hgj
   split at hs
   ·rename_i d hd
    have hy:∀ v,a.tmps[d]? = some v→yielded ops.toArray a.tmps j=(match v with | .bool b=>some b | _=>none):=fun v hv=>by
     unfold yielded
     simp only [List.getElem?_toArray,hgj,Option.bind_some,hd,hv]
     cases v<;>rfl
    split at hs
    ·rename_i b hlk
     obtain ⟨hlt,h0⟩:=hs
     have h1:b=want→stp tb o (st.know d want) K:=fun e=>by subst e;cases b<;>simpa [gs] using h0
     have h2:b = !want→K ((st.know d (!want)).put o.dst (.tup [])):=fun e=>by subst e;cases want<;>simpa [gs] using h0
     have hv:a.tmps[d]? = some (.bool b):=by
      obtain ⟨c,_,_,h3,h4,_⟩:=h
      have:=h3 d
      rw [hlk] at this
      have hlt':d < a.tmps.size:=by rw [h4];exact hlt
      rw [Array.getD_eq_getD_getElem?,Array.getElem?_eq_getElem hlt'] at this
      rw [Array.getElem?_eq_getElem hlt']
      simp only [Option.getD_some] at this
      generalize a.tmps[d]=u at this
      cases this;rfl
     have hyd:=hy _ hv
     simp only at hyd
     by_cases hb:b=want
     ·subst hb
      rw [if_pos (by simp [Region.wanted,hg,hyd])]
      exact stp_ok hE (h.know hlk) (h1 rfl) hn
     ·have hb':b = !want:=by cases b<;>cases want<;>simp_all
      rw [if_neg (by simp [Region.wanted,hg,hyd,hb])]
      exact hn _ _ _ ((h.know (by rw [hlk,hb'])).skipped o.dst) (h2 hb')
    ·rename_i hlk
     have hyd:yielded ops.toArray a.tmps j=none:=by
      cases hv:a.tmps[d]? with
      | none =>
       unfold yielded
       simp only [List.getElem?_toArray,hgj,Option.bind_some,hd,hv]
      | some v =>
       rw [hy v hv]
       obtain ⟨c,_,_,h3,h4,_⟩:=h
       have:=h3 d
       rw [hlk,Array.getD_eq_getD_getElem?,hv] at this
       simp only [Option.getD_some] at this
       cases this with
       | tup ls cs hn hh=>rfl
     rw [if_neg (by simp [Region.wanted,hg,hyd])]
     exact hn _ _ _ (h.skipped o.dst) hs
    ·exact hs.elim
   ·exact hs.elim
  ·exact hs.elim
def aops (tb:Tb) (ops:List Oper):List Oper→St→(St→Prop)→Prop
 | [],st,K=>K st
 | o::l,st,K=>stpG tb ops o st fun st'=>aops tb ops l st' K
theorem aops_ok {E:En} {tb:Tb} (hE:TbOk E tb) {ops:List Oper} {Q:Exit→Act→World→Prop} {K:St→Prop} (hK:∀ st a w,R E st a w→K st→Q .normal a w):∀ (l:List Oper) (st:St) (a:Act) (w:World),R E st a w→aops tb ops l st K→wpList E.P ops.toArray Q l a w
 | [],st,a,w,h,hk=>hK st a w h hk
 | o::l,st,a,w,h,hs=>by
  have:=stpG_ok hE h hs (next:=wpList E.P ops.toArray Q l) (Q:=Q) fun st' a' w' h' hk=>aops_ok hE hK l st' a' w' h' hk
  unfold wpList
  split at this
  ·rename_i hw;rw [if_pos hw];exact .inl this
  ·rename_i hw;rw [if_neg hw];exact this
/-- code -/
def Aw (E:En) (c:Code) (st:St) (Q:Exit→St→Prop):Prop :=
 ∀ a w,R E st a w→c.wp E.P (fun e a' w'=>∃ st',R E st' a' w'∧Q e st') a w
def thenA (next:St→Prop) (Q:Exit→St→Prop):Exit→St→Prop
 | .normal,st=>next st
 | e,st=>Q e st
def blockA (id:Nat) (Q:Exit→St→Prop):Exit→St→Prop
 | .exit k,st=>if k=id then Q .normal st else Q (.exit k) st
 | e,st=>Q e st
/-- only these slots and boxes are kept -/
def kpm:List Nat→List (Nat × List AV)→List (Nat × List AV)
 | [],_=>[]
 | d::l,m=>match lkm d m with
  | some ls=>(d,ls)::kpm l m
  | none=>kpm l m
def kps:List Nat→List (Nat × AV)→List (Nat × AV)
 | [],_=>[]
 | d::l,m=>(d,lk d m)::kps l m
def St.keep (st:St) (L Lm:List Nat):St:={ st with σ:=kps L st.σ,m:=kpm Lm st.m }
theorem lk_kps (x:Nat) (σ:List (Nat × AV)):∀ L:List Nat,lk x (kps L σ)=if x ∈ L then lk x σ else .junk
 | []=>by simp [kps,lk]
 | d::l=>by
  simp only [kps,lk]
  by_cases h:x=d
  ·subst h;simp
  ·rw [if_neg h,lk_kps x σ l];simp [h]
theorem lkm_kpm (x:Nat) (m:List (Nat × List AV)):∀ L:List Nat,∀ ls,lkm x (kpm L m)=some ls→lkm x m=some ls
 | [],ls,h=>by simp [kpm,lkm] at h
 | d::l,ls,h=>by
  simp only [kpm] at h
  split at h
  ·rename_i ls' hd
   simp only [lkm] at h
   split at h
   ·rename_i e;subst e;rw [hd];exact h
   ·exact lkm_kpm x m l ls h
  ·exact lkm_kpm x m l ls h
theorem R.keep {E : En} {st : St} {a : Act} {w : World} (h : R E st a w) (L Lm : List Nat) : R E (st.keep L Lm) a w := by
  obtain ⟨c, h1, G, h3, h4, h5⟩ := h
  refine ⟨c, h1, ?_, fun x => ?_, h4, h5⟩
  · exact { bl := G.bl, cg := G.cg, fr := G.fr, lx := G.lx, sx := G.sx, s1 := G.s1, sS := G.sS, sg := G.sg, box := fun d ls hl => G.box d ls (lkm_kpm d _ Lm ls hl), boxinj := fun d d' l l' e1 e2 => G.boxinj d d' l l' (lkm_kpm d _ Lm l e1) (lkm_kpm d' _ Lm l' e2),
            tok := G.tok, toktok := G.toktok, tokbox := fun d j b k ls e1 e2 => G.tokbox d j b k ls e1 (lkm_kpm k _ Lm ls e2), rk := G.rk }
  · simp only [St.keep, lk_kps]
    split
    · exact h3 x
    · exact .junk _

theorem Aw.mono {E:En} {c:Code} {st:St} {Q Q':Exit→St→Prop} (h:Aw E c st Q) (hq:∀ e st',Q e st'→Q' e st'):Aw E c st Q' :=
 fun a w hr=>Go.wp_mono (h a w hr) fun e _ _ ⟨st',h1,h2⟩=>⟨st',h1,hq e st' h2⟩
theorem Aw_text {E:En} {tb:Tb} (hE:TbOk E tb) {id:Nat} {l:List Oper} {st:St} {Q:Exit→St→Prop} (L Lm:List Nat) (h:aops tb l l st fun st'=>Q .normal (st'.keep L Lm)):Aw E (.region id l.toArray false) st Q:=by
 intro a w hr
 refine wp_region_lit (aops_ok hE (K:=fun st'=>Q .normal (st'.keep L Lm)) (fun st' _ _ h' hk=>⟨_,h'.keep L Lm,hk⟩) l st a w hr h)
theorem Aw_seq {E:En} {x y:Code} {st:St} {Q:Exit→St→Prop} (h:Aw E x st (thenA (fun st'=>Aw E y st' Q) Q)):Aw E (.seq x y) st Q:=by
 intro a w hr
 refine wp_seq (Go.wp_mono (h a w hr) fun e a' w' ⟨st',h1,h2⟩=>?_)
 cases e with
 | normal=>exact h2 a' w' h1
 | _=>exact ⟨st',h1,h2⟩
theorem Aw_cond {E:En} {c:Operand} {x y:Code} {st:St} {Q:Exit→St→Prop} {b:Bool} (hc:st.ev c = .v (.bool b)) (hx:b=true→Aw E x st Q) (hy:b=false→Aw E y st Q):Aw E (.cond c x y) st Q:=by
 intro a w hr
 have hv:a.eval c = .bool b:=by
  obtain ⟨_,_,_,_,_,_,h6⟩:=hr.get c
  rw [hc] at h6;generalize a.eval c=u at h6;cases h6;rfl
 exact wp_cond_split hv (fun e=>hx e a w hr) (fun e=>hy e a w hr)
theorem Aw_skip {E:En} {st:St} {Q:Exit→St→Prop} (h:Q .normal st):Aw E .skip st Q:=fun _ _ hr=>wp_skip ⟨st,hr,h⟩
theorem Aw_ret {E:En} {st:St} {Q:Exit→St→Prop} (h:Q .ret st):Aw E .ret st Q:=fun _ _ hr=>wp_ret ⟨st,hr,h⟩
theorem Aw_exit {E:En} {id:Nat} {st:St} {Q:Exit→St→Prop} (h:Q (.exit id) st):Aw E (.exit id) st Q:=fun _ _ hr=>wp_exit ⟨st,hr,h⟩
theorem Aw_block {E:En} {id:Nat} {c:Code} {st:St} {Q:Exit→St→Prop} (h:Aw E c st (blockA id Q)):Aw E (.block id c) st Q:=by
 intro a w hr
 refine wp_block (Go.wp_mono (h a w hr) fun e a' w' ⟨st',h1,h2⟩=>?_)
 cases e with
 | exit k =>
  simp only [blockA] at h2
  simp only [Exit.inBlock]
  split at h2
  ·rename_i e;rw [if_pos (by simpa using e)];exact ⟨st',h1,h2⟩
  ·rename_i e;rw [if_neg (by simpa using e)];exact ⟨st',h1,h2⟩
 | _=>exact ⟨st',h1,h2⟩
/-- st says more than st' -/
def Le (st st':St):Prop:=∀ E a w,R E st a w→R E st' a w
theorem Le.refl (st:St):Le st st:=fun _ _ _ h=>h
theorem Le.trans {a b c:St} (h:Le a b) (k:Le b c):Le a c:=fun E x w r=>k E x w (h E x w r)
theorem Aw.le {E:En} {c:Code} {st st':St} {Q:Exit→St→Prop} (hl:Le st st') (h:Aw E c st' Q):Aw E c st Q:=fun a w hr=>h a w (hl E a w hr)
theorem Aw_loop {E:En} {c:Code} {st:St} {Q:Exit→St→Prop} {ι:Type} (F:ι→St) (p:ι→Prop) (μ:ι→Nat) (i0:ι) (h0:Le st (F i0)) (hp:p i0)
  (hs:∀ i,p i→Aw E c (F i) (thenA (fun st'=>∃ j,p j∧μ j < μ i∧Le st' (F j)) Q)):Aw E (.loop c) st Q:=by
 intro a w hr
 refine wp_loop_ghost (fun n a w=>∃ i,p i∧μ i=n∧R E (F i) a w) (μ i0) ⟨i0,hp,rfl,h0 E a w hr⟩ ?_
 intro n a w ⟨i,hi,hμ,hri⟩
 refine Go.wp_mono (hs i hi a w hri) fun e a' w' ⟨st',h1,h2⟩=>?_
 cases e with
 | normal =>
  obtain ⟨j,hj,hlt,hle⟩:=h2
  exact ⟨μ j,by omega,j,hj,rfl,hle E a' w' h1⟩
 | _=>exact ⟨st',h1,h2⟩
end Go.Eng
end
section
namespace Go.Eng
open Go Go.RowKit
/-- a result variable,read -/
def rv (tmps:Array Value):ResultVar→Sem Value
 | .tmp t=>pure (tmps.getD t undef)
 | .cell a t=>do loadVar t (← asAddr (tmps.getD a undef))
theorem results_rv (fn:Func) (tmps:Array Value):results fn tmps=(do let vs ← fn.results.mapM (rv tmps);pure (if h:vs.size=1 then vs[0] else .tuple vs)):=rfl
/-- results -/
def res1 (T:List (TypeId × TyI)) (st:St):ResultVar→Option (Prop × AV)
 | .tmp t=>some (True,lk t st.σ)
 | .cell a t=>match lk a st.σ,tyk t T with
  | .loc d off,some i=>match lkm d st.m with
   | some ls=>ld i (ls.drop off)
   | none=>none
  | _,_=>none
def resL (T:List (TypeId × TyI)) (st:St):List ResultVar→Option (Prop × List AV)
 | []=>some (True,[])
 | r::l=>match res1 T st r,resL T st l with
  | some (c,x),some (c',xs)=>some (c∧c',x::xs)
  | _,_=>none
def oneR:List AV→AV
 | [x]=>x
 | l=>.tup l
theorem res1_ok {E:En} {T:List (TypeId × TyI)} (hT:TysOk E.P T) {st:St} {c:Gh} {w:World} {tmps:Array Value} (hw:c.w=w) (G:Good E st.m st.rn c) (hσ:∀ x,Rd c (lk x st.σ) (tmps.getD x undef)) {r:ResultVar} {cd:Prop} {x:AV} (h:res1 T st r=some (cd,x)) (hc:cd) :
  ∃ v,(rv tmps r).run E.P w = .ok v w∧Rd c x v:=by
 cases r with
 | tmp t =>
  obtain ⟨rfl,rfl⟩:=Prod.mk.inj (Option.some.inj h)
  exact ⟨tmps.getD t undef,rfl,hσ t⟩
 | cell a t =>
  simp only [res1] at h
  split at h
  ·rename_i d off i hx hi
   split at h
   ·rename_i ls hl
    obtain ⟨h4,h5,h6⟩:=ld_ok h hc
    have hr:=hσ a
    rw [hx] at hr
    obtain ⟨b,hb⟩:∃ b,c.β d=b:=⟨_,rfl⟩
    have hv:tmps.getD a undef = .pointer (some ⟨b,off,none⟩):=by generalize tmps.getD a undef=u at hr;cases hr;rw [hb]
    obtain ⟨cs,T',b1,b2,b3,b4,b5⟩:=(G.box d ls hl).cells hr.loc0
    rw [hb,hw] at b2
    obtain ⟨q1,q2⟩:=ldL_ok (c:=c) h4 h5 (fun j=>cs.getD (off + j) undef) (fun j y hy=>b4 (off + j) y (by rw [List.getElem?_drop] at hy;exact hy))
    refine ⟨_,?_,q2⟩
    have:=run_loadVar_cells (hT.get hi) w b off (fun j=>cs.getD (off + j) undef) h6 (fun k hk=>by
     rw [cell_of_row w b _ cs T' (0,0) b2,Array.getD_eq_getD_getElem?]
     have:off + k < cs.size:=by rw [b3];simp only [List.length_drop] at q1;omega
     simp [this])
    simp only [rv,hv,asAddr,Sem.run_bind,Sem.run_pure,Result.andThen_ok,this]
   ·cases h
  ·cases h
theorem resL_ok {E:En} {T:List (TypeId × TyI)} (hT:TysOk E.P T) {st:St} {c:Gh} {w:World} {tmps:Array Value} (hw:c.w=w) (G:Good E st.m st.rn c) (hσ:∀ x,Rd c (lk x st.σ) (tmps.getD x undef)):∀ (l:List ResultVar) (cd:Prop) (xs:List AV),resL T st l=some (cd,xs)→cd→
  ∃ vs:List Value,(l.mapM (rv tmps)).run E.P w = .ok vs w∧vs.length=xs.length∧∀ (j:Nat) (x:AV),xs[j]? = some x→∃ v,vs[j]? = some v∧Rd c x v
 | [],cd,xs,h,_=>by
  obtain ⟨rfl,rfl⟩:=Prod.mk.inj (Option.some.inj h)
  exact ⟨[],rfl,rfl,fun j x hx=>by simp at hx⟩
 | r::l,cd,xs,h,hc=>by
  simp only [resL] at h
  split at h
  ·rename_i c1 x c2 ys h1 h2
   obtain ⟨rfl,rfl⟩:=Prod.mk.inj (Option.some.inj h)
   obtain ⟨v,v1,v2⟩:=res1_ok hT hw G hσ h1 hc.1
   obtain ⟨vs,s1,s2,s3⟩:=resL_ok hT hw G hσ l c2 ys h2 hc.2
   refine ⟨v::vs,?_,by simp [s2],fun j y hy=>?_⟩
   ·simp only [List.mapM_cons,Sem.run_bind,Sem.run_pure]
    rw [v1]
    simp only [Result.andThen_ok]
    rw [s1];rfl
   ·match j,hy with
    | 0,hy=>obtain rfl:=Option.some.inj hy;exact ⟨v,rfl,v2⟩
    | j + 1,hy=>exact s3 j y (by simpa using hy)
  ·cases h
/- owners that go out -/
mutual
def AV.xp (us:List (Nat × Nat)):AV→AV × List (Nat × Nat)
 | .sl (some (d,j,e)) els=>if us.contains (d,j) then (.sl none els,us) else (.sl (some (0,us.length,e)) els,us++[(d,j)])
 | .sl none els=>(.sl none els,us)
 | .v x=>(.v x,us)
 | .nl=>(.nl,us)
 | .agg ls=>let p:=AV.xpAll us ls;(.agg p.1,p.2)
 | .tup ls=>let p:=AV.xpAll us ls;(.tup p.1,p.2)
 | .loc _ _=>(.junk,us)
 | .xs _ _ _ _ _=>(.junk,us)
 | .el ls=>(.el ls,us)
 | .rd=>(.rd,us)
 | .dv x=>(.dv x,us)
 | .mr _=>(.junk,us)
 | .mb t=>(.mb t,us)
 | .junk=>(.junk,us)
def AV.xpAll (us:List (Nat × Nat)):List AV→List AV × List (Nat × Nat)
 | []=>([],us)
 | x::l=>let p:=x.xp us;let q:=AV.xpAll p.2 l;(p.1::q.1,q.2)
end
/-- the exported context -/
def xpG (c : Gh) (us : List (Nat × Nat)) : Gh :=
  { c with tv := fun k j => if k = 0 then (match us[j]? with | some p => c.tv p.1 p.2 | none => .slice none 0 0) else .slice none 0 0
           te := fun k j => if k = 0 then (match us[j]? with | some p => c.te p.1 p.2 | none => 0) else 0 }

def Pre (us vs:List (Nat × Nat)):Prop:=∃ ws,vs=us++ws
mutual
theorem xp_mono (us:List (Nat × Nat)):∀ x:AV,us.Nodup→Pre us (x.xp us).2∧(x.xp us).2.Nodup
 | .sl (some (d,j,e)) els,h=>by
  simp only [AV.xp]
  split
  ·exact ⟨⟨[],by simp⟩,h⟩
  ·rename_i hc
   refine ⟨⟨[(d,j)],rfl⟩,?_⟩
   rw [List.nodup_append]
   exact ⟨h,by simp,fun a ha b hb=>by simp at hb;subst hb;intro e;subst e;simp at hc;exact hc ha⟩
 | .sl none _,h=>⟨⟨[],by simp [AV.xp]⟩,h⟩
 | .v _,h=>⟨⟨[],by simp [AV.xp]⟩,h⟩
 | .nl,h=>⟨⟨[],by simp [AV.xp]⟩,h⟩
 | .agg ls,h=>xpAll_mono us ls h
 | .tup ls,h=>xpAll_mono us ls h
 | .loc _ _,h=>⟨⟨[],by simp [AV.xp]⟩,h⟩
 | .xs _ _ _ _ _,h=>⟨⟨[],by simp [AV.xp]⟩,h⟩
 | .el _,h=>⟨⟨[],by simp [AV.xp]⟩,h⟩
 | .rd,h=>⟨⟨[],by simp [AV.xp]⟩,h⟩
 | .dv _,h=>⟨⟨[],by simp [AV.xp]⟩,h⟩
 | .mr _,h=>⟨⟨[],by simp [AV.xp]⟩,h⟩
 | .mb _,h=>⟨⟨[],by simp [AV.xp]⟩,h⟩
 | .junk,h=>⟨⟨[],by simp [AV.xp]⟩,h⟩
theorem xpAll_mono (us:List (Nat × Nat)):∀ l:List AV,us.Nodup→Pre us (AV.xpAll us l).2∧(AV.xpAll us l).2.Nodup
 | [],h=>⟨⟨[],by simp [AV.xpAll]⟩,h⟩
 | x::l,h=>by
  obtain ⟨⟨w1,h1⟩,h2⟩:=xp_mono us x h
  obtain ⟨⟨w2,h3⟩,h4⟩:=xpAll_mono (x.xp us).2 l h2
  simp only [AV.xpAll]
  exact ⟨⟨w1++w2,by rw [h3,h1,List.append_assoc]⟩,h4⟩
end
theorem xpAll_get (us:List (Nat × Nat)) (hn:us.Nodup):∀ (l:List AV) (j:Nat) (y:AV),(AV.xpAll us l).1[j]? = some y→∃ x us',l[j]? = some x∧y=(x.xp us').1∧us'.Nodup∧Pre (x.xp us').2 (AV.xpAll us l).2
 := by
 intro l
 induction l generalizing us with
 | nil=>intro j y h;simp [AV.xpAll] at h
 | cons x l ih =>
  intro j y h
  simp only [AV.xpAll] at h ⊢
  obtain ⟨_,h2⟩:=xp_mono us x hn
  match j,h with
  | 0,h =>
   obtain rfl:=Option.some.inj h
   exact ⟨x,us,rfl,rfl,hn,(xpAll_mono (x.xp us).2 l h2).1⟩
  | j + 1,h =>
   obtain ⟨z,us',e1,e2,e3,e4⟩:=ih (x.xp us).2 h2 j y (by simpa using h)
   exact ⟨z,us',by simpa using e1,e2,e3,e4⟩
theorem Rd.xp {c:Gh} {x:AV} {v:Value} (h:Rd c x v):∀ (us vs:List (Nat × Nat)),us.Nodup→Pre (x.xp us).2 vs→Rd (xpG c vs) (x.xp us).1 v:=by
 have hk:Keeps c.w c.S c.w c.S:=Keeps.same (fun _ _ h=>h) fun _ _ _=>rfl
 induction h with
 | v x h=>intro us vs _ _;exact .v x h
 | junk x=>intro us vs _ _;exact .junk x
 | nl=>intro us vs _ _;exact .nl
 | rd=>intro us vs _ _;exact (.rd:Rd (xpG c vs) .rd _)
 | dv x v h=>intro us vs _ _;exact .dv x v h
 | loc k off=>intro us vs _ _;exact .junk _
 | mr1 k hb=>intro us vs _ _;exact .junk _
 | mr2 k hb=>intro us vs _ _;exact .junk _
 | mb t=>intro us vs _ _;exact .mb t
 | xs k off n cap sz hc=>intro us vs _ _;exact .junk _
 | sl tok els v h ht =>
  intro us vs hn hp
  rcases tok with _ | ⟨d,j,e⟩
  ·exact .sl none els v h trivial
  ·simp only [AV.xp] at hp ⊢
   split
   ·exact .sl none els v h trivial
   ·rename_i hc
    rw [if_neg hc] at hp
    obtain ⟨ws,rfl⟩:=hp
    refine .sl _ els v h ?_
    have e1:(us++[(d,j)]++ws)[us.length]? = some (d,j):=by simp
    simp only [TokC,xpG,if_true,e1]
    exact ht
 | agg ls cs hn _ ih =>
  intro us vs hnd hp
  simp only [AV.xp] at hp ⊢
  have hlen:∀ (l:List AV) (us:List (Nat × Nat)),(AV.xpAll us l).1.length=l.length:=by
   intro l;induction l with
   | nil=>intro us;rfl
   | cons x l ih=>intro us;simp [AV.xpAll,ih]
  refine .agg _ cs (by rw [hlen];exact hn) fun j y hy=>?_
  obtain ⟨x,us',e1,rfl,e3,e4⟩:=xpAll_get us hnd ls j y hy
  obtain ⟨w1,hw1⟩:=e4
  obtain ⟨w2,hw2⟩:=hp
  exact ih j x e1 us' vs e3 ⟨w1++w2,by rw [hw2,hw1,List.append_assoc]⟩
 | tup ls cs hn _ ih =>
  intro us vs hnd hp
  simp only [AV.xp] at hp ⊢
  have hlen:∀ (l:List AV) (us:List (Nat × Nat)),(AV.xpAll us l).1.length=l.length:=by
   intro l;induction l with
   | nil=>intro us;rfl
   | cons x l ih=>intro us;simp [AV.xpAll,ih]
  refine .tup _ cs (by rw [hlen];exact hn) fun j y hy=>?_
  obtain ⟨x,us',e1,rfl,e3,e4⟩:=xpAll_get us hnd ls j y hy
  obtain ⟨w1,hw1⟩:=e4
  obtain ⟨w2,hw2⟩:=hp
  exact ih j x e1 us' vs e3 ⟨w1++w2,by rw [hw2,hw1,List.append_assoc]⟩
 | el ls b off f hc hh=>intro us vs _ _;exact .el ls b off f hc hh
def enumA:Nat→List AV→List (Nat × AV)
 | _,[]=>[]
 | k,x::l=>(k,x)::enumA (k + 1) l
theorem lk_enumA (x:Nat):∀ (k:Nat) (l:List AV),lk x (enumA k l)=if k≤x then l.getD (x - k) .junk else .junk
 | k,[]=>by simp [enumA,lk]
 | k,y::l=>by
  simp only [enumA,lk]
  by_cases h:x=k
  ·subst h;simp
  ·rw [if_neg h,lk_enumA x (k + 1) l]
   by_cases h':k≤x
   ·rw [if_pos (by omega),if_pos h',show x - k=(x - (k + 1)) + 1 from by omega];simp
   ·rw [if_neg (by omega),if_neg h']
def st0 (nt:Nat) (args:List AV) (n:Nat):St:={ nt:=nt,σ:=enumA 0 args,m:=[],rn:=n }
/-- at a function's end -/
def retA (T:List (TypeId × TyI)) (rs:List ResultVar) (C:Con) (args:List AV) (n:Nat):Exit→St→Prop
 | .normal,st | .ret,st=>match resL T st rs with
  | some (c,l)=>c∧(C.draws=true→st.rn≤n + C.cost)∧C.post args (if C.own then ((oneR l).xp []).1 else (oneR l).er)
  | none=>False
 | _,_=>False
theorem RK.rebase {w w':World} {g B B' n n' k:Nat} {bv:Value} (h:RK w g bv B n) (h':RK w' g bv B' n') (hk:n'≤k):RK w' g bv B k:=by
 obtain ⟨h1,T,p,h2,h3,h4,h5⟩:=h
 obtain ⟨g1,T',p',g2,g3,g4,g5⟩:=h'
 refine ⟨h1,T',p',g2,g3,by omega,?_⟩
 rcases g5 with g5 | ⟨cb,off,len,cap,f,e1,e2,e4,e5⟩
 ·exact .inl g5
 ·rcases h5 with h5 | ⟨cb',off',len',cap',f',k1,k2,k4,k5⟩
  ·exact .inl h5
  ·rw [k1] at e1
   simp only [Value.slice.injEq,Option.some.injEq,Addr.mk.injEq,and_true] at e1
   obtain ⟨⟨rfl,rfl⟩,rfl,rfl⟩:=e1
   exact .inr ⟨cb',off',len',cap',f,k1,k2,e4,e5⟩
theorem valid_of {P : Program} {f : FuncId} {fn : Func} {body : Code} {T : List (TypeId × TyI)} {C : Con} (hf : P.funcs[f]? = some fn) (hb : fn.body = some body) (hT : TysOk P T)
    (h : ∀ args, C.pre args → args.length ≤ fn.ntmps ∧ ∀ n, (C.draws = true → n + C.cost ≤ lim) → ∀ E : En, E.P = P → E.draws = C.draws → (∀ b, ¬ E.L b) → C.inv E.w0 → Aw E body (st0 fn.ntmps args n) (retA T fn.results.toList C args n)) : Valid P f C := by
  intro c args vs bv B n hsz hrd her hpre hinv hsx hs1 hdr
  obtain ⟨hl, h⟩ := h args hpre
  let E : En := { P := P, w0 := c.w, draws := C.draws, g := c.g, bv := bv, S0 := c.S }
  have ha := h n (fun e => (hdr e).2.2.2) E rfl rfl (fun _ h => h) hinv
  refine calls_of_wp hf hb (Go.wp_mono (ha { tmps := vs ++ Array.replicate (fn.ntmps - vs.size) undef, defers := [] } c.w ?_) ?_)
  · let c0 : Gh := { w := c.w, S := c.S, β := fun _ => 0, tv := fun _ _ => .slice none 0 0, te := fun _ _ => 0, g := c.g }
    refine ⟨c0, rfl, ?_, fun x => ?_, by simp [st0, hsz]; omega, rfl⟩
    · exact { bl := fun _ _ => rfl, cg := rfl, fr := ⟨rfl, rfl, rfl, Nat.le_refl _, fun _ _ _ _ => rfl⟩, lx := fun _ _ h => h.elim, sx := hsx, s1 := hs1, sS := fun _ _ h => .inr h, sg := fun hd => (hdr hd).1, box := fun d ls hl => by simp [st0, lkm] at hl, boxinj := fun d d' l l' hl => by simp [st0, lkm] at hl,
              tok := fun _ _ => .inl rfl, toktok := fun _ _ _ _ b hb => by simp [c0, Value.ownBlock] at hb, tokbox := fun _ _ b _ _ hb => by simp [c0, Value.ownBlock] at hb,
              rk := fun hd => by
                obtain ⟨_, hk, hB, _⟩ := hdr hd
                obtain ⟨h1, T', p, h2, h3, h4, h5⟩ := hk
                refine ⟨Nat.lt_of_lt_of_le h1 hB, T', p, h2, h3, h4, ?_⟩
                rcases h5 with h5 | ⟨cb, off, len, cap, f, e1, e2, e3, e4⟩
                · exact .inl h5
                · exact .inr ⟨cb, off, len, cap, f, e1, fun h => ⟨(e2 h).1, Nat.lt_of_lt_of_le (e2 h).2 hB⟩, e3, e4⟩ }
    · simp only [st0, lk_enumA, Nat.zero_le, if_true, Nat.sub_zero]
      by_cases hx : x < args.length
      · have e1 : args.getD x .junk = args[x] := by simp [List.getD_eq_getElem?_getD, hx]
        have e2 : (vs ++ Array.replicate (fn.ntmps - vs.size) undef).getD x undef = vs.getD x undef := by
          simp only [Array.getD_eq_getD_getElem?]
          rw [Array.getElem?_append_left (by omega)]
        rw [e1, e2]
        have := (hrd x args[x] (List.getElem?_eq_getElem hx)).er (c := c) (c' := c0) (Keeps.same (fun _ _ h => h) fun _ _ _ => rfl) rfl
        rwa [her _ (List.getElem_mem _)] at this
      · have e1 : args.getD x .junk = .junk := by simp [List.getD_eq_getElem?_getD, hx]
        rw [e1]; exact .junk _
  · rintro e a' w' ⟨st', ⟨c1, hw1, G, hσ, hn, hd⟩, hq⟩
    have fin : (match resL T st' fn.results.toList with
        | some (cd, l) => cd ∧ (C.draws = true → st'.rn ≤ n + C.cost) ∧ C.post args (if C.own then ((oneR l).xp []).1 else (oneR l).er)
        | none => False) → a'.defers = [] ∧ ∃ v, (results fn a'.tmps).run P w' = .ok v w' ∧ ∃ v' r c', Ending.returned v = Ending.returned v' ∧ C.post args r ∧ Out P C c bv B n r v' w' c' := by
      intro hq
      split at hq
      · rename_i cd l hr
        obtain ⟨q1, q2, q3⟩ := hq
        obtain ⟨vs', s1, s2, s3⟩ := resL_ok (E := E) hT hw1 G hσ fn.results.toList cd l hr q1
        have hres : (results fn a'.tmps).run P w' = .ok (if h : vs'.length = 1 then vs'[0] else .tuple vs'.toArray) w' := by
          have s1' : (List.mapM (rv a'.tmps) fn.results.toList).run P w' = .ok vs' w' := s1
          rw [results_rv, Array.mapM_eq_mapM_toList]
          simp only [Sem.run_bind, Sem.run_map, s1', Result.andThen_ok, List.size_toArray, Sem.run_pure]
          congr 1
        have hone : Rd c1 (oneR l) (if h : vs'.length = 1 then vs'[0] else .tuple vs'.toArray) := by
          by_cases h1 : vs'.length = 1
          · rw [dif_pos h1]
            obtain ⟨x, rfl⟩ : ∃ x, l = [x] := List.length_eq_one_iff.1 (by omega)
            obtain ⟨v, v1, v2⟩ := s3 0 x rfl
            have : vs'[0] = v := by
              have h0 := List.getElem?_eq_getElem (l := vs') (i := 0) (by omega)
              rw [h0] at v1; exact Option.some.inj v1
            rw [this]; exact v2
          · rw [dif_neg h1]
            have e : oneR l = .tup l := by
              unfold oneR
              split
              · simp at s2; omega
              · rfl
            rw [e]
            refine .tup l _ (by simpa using s2) fun j x hx => ?_
            obtain ⟨v, v1, v2⟩ := s3 j x hx
            have : vs'.toArray.getD j undef = v := by simp [Array.getD_eq_getD_getElem?, v1]
            rw [this]; exact v2
        generalize (if h : vs'.length = 1 then vs'[0] else .tuple vs'.toArray) = val at hres hone
        refine ⟨hd, val, hres, val, _, (if C.own then xpG c1 ((oneR l).xp []).2 else xpG c1 []), rfl, q3, ?_⟩
        have hus : ((oneR l).xp []).2.Nodup := (xp_mono [] (oneR l) List.nodup_nil).2
        have gen : ∀ us : List (Nat × Nat), us.Nodup → ∀ r, Rd (xpG c1 us) r val → Out P C c bv B n r val w' (xpG c1 us) := fun us hnd r hr' => by
          have htv : ∀ k j b, ((xpG c1 us).tv k j).ownBlock = some b → k = 0 ∧ ∃ p, us[j]? = some p ∧ (c1.tv p.1 p.2).ownBlock = some b := fun k j b hb => by
            simp only [xpG] at hb
            split at hb
            · rename_i hk
              split at hb
              · rename_i p hp; exact ⟨hk, p, hp, hb⟩
              · simp [Value.ownBlock] at hb
            · simp [Value.ownBlock] at hb
          refine { w := hw1, g := G.cg, rd := hr', fr := ?_, S := G.sS, sx := G.sx, s1 := G.s1, tok := fun k j => ?_, toktok := fun k j k' j' b h1 h2 => ?_, rk := fun hd' => ?_ }
          · have := G.fr.by (fun _ h => h); rw [hw1] at this; exact this
          · by_cases hk : k = 0
            · cases hj : us[j]? with
              | none => exact .inl (by simp [xpG, hk, hj])
              | some p =>
                rcases G.tok p.1 p.2 with h | ⟨g, nn, cap, cur, i, t1, t2, t3, t4, t5, t6, t7, t8⟩
                · exact .inl (by simp [xpG, hk, hj, h])
                · exact .inr ⟨g, nn, cap, cur, i, by simp [xpG, hk, hj, t1], t2, by simpa [xpG, hk, hj] using t3, t4, t5, by simpa [xpG, hk, hj] using t6, t7, t8⟩
            · exact .inl (by simp [xpG, hk])
          · obtain ⟨rfl, p, p1, p2⟩ := htv k j b h1
            obtain ⟨rfl, p', p1', p2'⟩ := htv k' j' b h2
            obtain ⟨e1, e2⟩ := G.toktok _ _ _ _ b p2 p2'
            have hpp : p = p' := Prod.ext e1 e2
            subst hpp
            refine ⟨rfl, ?_⟩
            exact (List.getElem?_inj (List.getElem?_eq_some_iff.1 p1).1 hnd).1 (p1.trans p1'.symm)
          · have h1 := (hdr hd').2.1
            have h2 := G.rk hd'
            rw [hw1] at h2
            exact h1.rebase h2 (q2 hd')
        cases hown : C.own
        · simp only [Bool.false_eq_true, if_false]
          refine gen [] List.nodup_nil _ (hone.er (c := c1) (c' := xpG c1 []) (Keeps.same (fun _ _ h => h) fun _ _ _ => rfl) rfl)
        · simp only [if_true]
          exact gen _ hus _ (hone.xp [] _ List.nodup_nil ⟨[], by simp⟩)
      · exact hq.elim
    cases e with
    | normal => exact fin hq
    | ret => exact fin hq
    | _ => exact hq.elim

/-- at the end of a function that was lent boxes -/
def retM (T:List (TypeId × TyI)) (rs:List ResultVar) (C:ConM) (args:List AV) (m1:List (Nat × List AV)):Exit→St→Prop
 | .normal,st | .ret,st=>match resL T st rs with
  | some (c,l)=>c∧C.post args m1 (oneR l).nt (ntm st.m)
  | none=>False
 | _,_=>False
def stM (nt:Nat) (args:List AV) (m1:List (Nat × List AV)):St:={ nt:=nt,σ:=enumA 0 args,m:=m1,rn:=0 }
theorem lkm_mem {d:Nat} {ls:List AV}:∀ {m:List (Nat × List AV)},lkm d m=some ls→d ∈ m.map (·.1)
 | [],h=>by simp [lkm] at h
 | (k,l)::m,h=>by
  simp only [lkm] at h
  split at h
  ·rename_i e;subst e;simp
  ·exact List.mem_cons_of_mem _ (lkm_mem h)
theorem valid_ofM {P : Program} {f : FuncId} {fn : Func} {body : Code} {T : List (TypeId × TyI)} {C : ConM} (hf : P.funcs[f]? = some fn) (hb : fn.body = some body) (hT : TysOk P T)
    (h : ∀ args m1, C.pre args m1 → args.length ≤ fn.ntmps ∧ ∀ E : En, E.P = P → E.draws = false → C.inv E.w0 → (∀ b, E.L b → ∃ d ∈ m1.map (·.1), 1000 ≤ d ∧ E.b0 d = b) → Aw E body (stM fn.ntmps args m1) (retM T fn.results.toList C args m1)) : ValidM P f C := by
  intro c args m1 vs hsz hrd hnt hpre hinv hsx hs1 hbox hbinj
  obtain ⟨hl, h⟩ := h args m1 hpre
  let E : En := { P := P, w0 := c.w, draws := false, g := c.g, bv := .nilIface, S0 := c.S, L := fun b => ∃ d ls, lkm d m1 = some ls ∧ c.β d = b, b0 := c.β }
  have ha := h E rfl rfl hinv fun b ⟨d, ls, hl, e⟩ => ⟨d, lkm_mem hl, (hbox d ls hl).1, e⟩
  let c0 : Gh := { w := c.w, S := c.S, β := c.β, tv := fun _ _ => .slice none 0 0, te := fun _ _ => 0, g := c.g }
  have hk0 : Keeps c.w c.S c0.w c0.S := Keeps.same (fun _ _ h => h) fun _ _ _ => rfl
  refine calls_of_wp hf hb (Go.wp_mono (ha { tmps := vs ++ Array.replicate (fn.ntmps - vs.size) undef, defers := [] } c.w ?_) ?_)
  · refine ⟨c0, rfl, ?_, fun x => ?_, by simp [stM, hsz]; omega, rfl⟩
    · exact { bl := fun _ _ => rfl, cg := rfl, fr := ⟨rfl, rfl, rfl, Nat.le_refl _, fun _ _ _ _ => rfl⟩, lx := fun h => (by cases h), sx := hsx, s1 := hs1, sS := fun _ _ h => .inr h, sg := fun h => (by cases h),
              box := fun d ls hl => by
                obtain ⟨q0, q1, cs, T, q2, q3, q4, q5⟩ := hbox d ls hl
                refine ⟨cs, T, .inr ⟨d, ls, hl, rfl⟩, q2, q3, fun j x hx => ?_, q5⟩
                have := (q4 j x hx).nt (c' := c0) hk0 rfl
                have e : x.nt = x := by
                  have h1 : (AV.ntAll ls)[j]? = some x.nt := by rw [ntAll_eq, List.getElem?_map, hx]; rfl
                  rw [q1, hx] at h1
                  exact (Option.some.inj h1).symm
                rwa [e] at this
              boxinj := hbinj,
              tok := fun _ _ => .inl rfl, toktok := fun _ _ _ _ b hb => by simp [c0, Value.ownBlock] at hb, tokbox := fun _ _ b _ _ hb => by simp [c0, Value.ownBlock] at hb,
              rk := fun h => by cases h }
    · simp only [stM, lk_enumA, Nat.zero_le, if_true, Nat.sub_zero]
      by_cases hx : x < args.length
      · have e1 : args.getD x .junk = args[x] := by simp [List.getD_eq_getElem?_getD, hx]
        have e2 : (vs ++ Array.replicate (fn.ntmps - vs.size) undef).getD x undef = vs.getD x undef := by
          simp only [Array.getD_eq_getD_getElem?]
          rw [Array.getElem?_append_left (by omega)]
        rw [e1, e2]
        have := (hrd x args[x] (List.getElem?_eq_getElem hx)).nt (c' := c0) hk0 rfl
        rwa [hnt _ (List.getElem_mem _)] at this
      · have e1 : args.getD x .junk = .junk := by simp [List.getD_eq_getElem?_getD, hx]
        rw [e1]; exact .junk _
  · rintro e a' w' ⟨st', ⟨c1, hw1, G, hσ, hn, hd⟩, hq⟩
    have fin : (match resL T st' fn.results.toList with
        | some (cd, l) => cd ∧ C.post args m1 (oneR l).nt (ntm st'.m)
        | none => False) → a'.defers = [] ∧ ∃ v, (results fn a'.tmps).run P w' = .ok v w' ∧ ∃ v' r m2 c', Ending.returned v = Ending.returned v' ∧ C.post args m1 r m2 ∧ OutM P c m1 m2 r v' w' c' := by
      intro hq
      split at hq
      · rename_i cd l hr
        obtain ⟨q1, q3⟩ := hq
        obtain ⟨vs', s1, s2, s3⟩ := resL_ok (E := E) hT hw1 G hσ fn.results.toList cd l hr q1
        have hres : (results fn a'.tmps).run P w' = .ok (if h : vs'.length = 1 then vs'[0] else .tuple vs'.toArray) w' := by
          have s1' : (List.mapM (rv a'.tmps) fn.results.toList).run P w' = .ok vs' w' := s1
          rw [results_rv, Array.mapM_eq_mapM_toList]
          simp only [Sem.run_bind, Sem.run_map, s1', Result.andThen_ok, List.size_toArray, Sem.run_pure]
          congr 1
        have hone : Rd c1 (oneR l) (if h : vs'.length = 1 then vs'[0] else .tuple vs'.toArray) := by
          by_cases h1 : vs'.length = 1
          · rw [dif_pos h1]
            obtain ⟨x, rfl⟩ : ∃ x, l = [x] := List.length_eq_one_iff.1 (by omega)
            obtain ⟨v, v1, v2⟩ := s3 0 x rfl
            have : vs'[0] = v := by
              have h0 := List.getElem?_eq_getElem (l := vs') (i := 0) (by omega)
              rw [h0] at v1; exact Option.some.inj v1
            rw [this]; exact v2
          · rw [dif_neg h1]
            have e : oneR l = .tup l := by
              unfold oneR
              split
              · simp at s2; omega
              · rfl
            rw [e]
            refine .tup l _ (by simpa using s2) fun j x hx => ?_
            obtain ⟨v, v1, v2⟩ := s3 j x hx
            have : vs'.toArray.getD j undef = v := by simp [Array.getD_eq_getD_getElem?, v1]
            rw [this]; exact v2
        generalize (if h : vs'.length = 1 then vs'[0] else .tuple vs'.toArray) = val at hres hone
        refine ⟨hd, val, hres, val, _, _, c1, rfl, q3, ?_⟩
        have hk1 : Keeps c1.w c1.S c1.w c1.S := Keeps.same (fun _ _ h => h) fun _ _ _ => rfl
        refine { w := hw1, rd := hone.nt hk1 rfl, fr := ?_, S := G.sS, sx := G.sx, s1 := G.s1, box := fun d ls hl => ?_, boxinj := fun d d' ls ls' h1 h2 he => ?_, bl := G.bl }
        · have := G.fr; rw [hw1] at this; exact this
        · rw [lkm_nt, Option.map_eq_some_iff] at hl
          obtain ⟨ls0, hl0, rfl⟩ := hl
          obtain ⟨cs, T, b1, b2, b3, b4, b5⟩ := G.box d ls0 hl0
          refine ⟨cs, T, b1, b2, by rw [ntAll_eq, List.length_map]; exact b3, fun j x hx => ?_, b5⟩
          rw [ntAll_eq, List.getElem?_map, Option.map_eq_some_iff] at hx
          obtain ⟨y, hy, rfl⟩ := hx
          exact (b4 j y hy).nt hk1 rfl
        · rw [lkm_nt, Option.map_eq_some_iff] at h1 h2
          obtain ⟨l1, h1, _⟩ := h1
          obtain ⟨l2, h2, _⟩ := h2
          exact G.boxinj d d' l1 l2 h1 h2 he
      · exact hq.elim
    cases e with
    | ret => exact fin hq
    | normal => exact fin hq
    | _ => exact hq.elim
end Go.Eng
end
section
namespace Go.Eng
open Go Go.RowKit
def fieldsD:TypeDesc→List (Nat × TypeId)
 | .struct fs=>fs.toList.map fun f=>(f.offset,f.type)
 | _=>[]
def elemD:TypeDesc→Option TypeId
 | .slice e=>some e
 | _=>none
def ikD:TypeDesc→Option IntKind
 | .int k=>some k
 | _=>none
def isbD:TypeDesc→Bool
 | .bool=>true
 | _=>false
def issD:TypeDesc→Bool
 | .string=>true
 | _=>false
def isIfcD:TypeDesc→Bool
 | .interface _=>true
 | _=>false
def Eq2 (P:Program) (t:TypeId):Prop :=
 ∀ (w:World) (x y:Operand) (a b c d:Int),(eqGuard .eql t x y (.agg #[.int .i64 a,.int .i64 b]) (.agg #[.int .i64 c,.int .i64 d])).run P w = .ok () w∧(eqGuard .neq t x y (.agg #[.int .i64 a,.int .i64 b]) (.agg #[.int .i64 c,.int .i64 d])).run P w = .ok () w∧
  (binOp .eql t (.agg #[.int .i64 a,.int .i64 b]) (.agg #[.int .i64 c,.int .i64 d])).run P w = .ok (.bool (a == c && b == d)) w∧(binOp .neq t (.agg #[.int .i64 a,.int .i64 b]) (.agg #[.int .i64 c,.int .i64 d])).run P w = .ok (.bool (!(a == c && b == d))) w
theorem tyOk_of {P:Program} {t:TypeId} {i:TyI} {d:TypeDesc} (h1:(P.info? t).map (fun q=>(q.size,q.zero.map (fun z=>z.cells.toList),decide (q.bytes≤32768) && (decide (q.size=0) || decide (q.bytes≠0))))=some (i.size,some i.zero,true)) (hz:i.zero.length=i.size) (h2:P.underlying t=some d)
  (h3:isAggD d=i.agg) (h4:fieldsD d=i.fields) (h5:elemD d=i.elem) (h6:ikD d=i.ik) (h7:isbD d=i.isb) (h8:issD d=i.iss) (h9:i.eq2=true→Eq2 P t) (h10:i.ifc=true→isIfcD d=true:=by intro h;cases h) (h11:i.np=true→npD d=true:=by intro h;cases h) (h12:i.emp=true→d = .struct #[]∧i.size=0:=by intro h;cases h) (h13:i.ptr=true→∃ e,d = .pointer e:=by intro h;cases h):TyOk P t i:=by
 obtain ⟨q,hq,h1⟩:=Option.map_eq_some_iff.1 h1
 simp only [Prod.mk.injEq,Bool.and_eq_true,Bool.or_eq_true,decide_eq_true_eq] at h1
 obtain ⟨e1,e2,e3,e4⟩:=h1
 obtain ⟨z,hz1,hz2⟩:=Option.map_eq_some_iff.1 e2
 refine { inf:=⟨q,z,d,hq,e1,hz1,hz2,by rw [← hz,← hz2];simp,e3,h2,h3⟩,flds:=fun hne=>?_,el:=fun e he=>?_,ik:=fun k hk=>?_,bl:=fun hb=>?_,ss:=fun hs=>?_,fc:=fun hf=>?_,bz:=fun hne q' hq'=>by (rw [hq] at hq';obtain rfl:=Option.some.inj hq';exact e4.resolve_left (by rw [e1];exact hne)),np:=fun hf=>⟨d,h2,h11 hf⟩,pr:=fun hf=>(by obtain ⟨e,rfl⟩:=h13 hf;exact ⟨e,h2⟩),em:=fun hf=>⟨by rw [h2,(h12 hf).1],(h12 hf).2⟩,e2:=h9 }
 ·rw [← h4] at hne ⊢
  cases d<;>first | exact absurd rfl hne | exact ⟨_,h2,rfl⟩
 ·rw [← h5] at he
  cases d<;>simp [elemD] at he
  subst he;exact h2
 ·rw [← h6] at hk
  cases d<;>simp [ikD] at hk
  subst hk;exact h2
 ·rw [← h7] at hb
  cases d<;>simp [isbD] at hb
  exact h2
 ·rw [← h8] at hs
  cases d<;>simp [issD] at hs
  exact h2
 ·have:=h10 hf
  cases d<;>simp [isIfcD] at this
  exact ⟨_,h2⟩
theorem tysOk_nil {P:Program}:TysOk P []:=fun _ h=>by cases h
theorem tysOk_cons {P:Program} {t:TypeId} {i:TyI} {T:List (TypeId × TyI)} (h:TyOk P t i) (hT:TysOk P T):TysOk P ((t,i)::T):=fun p hp=>by
 rcases List.mem_cons.1 hp with rfl | hp
 ·exact h
 ·exact hT p hp
/-- two-int structs are equal where their ints are -/
theorem eq2_of {P:Program} {t:TypeId} {f1 f2:Field} {e1 e2:TypeId} (h:P.underlying t=some (.struct #[f1,f2])) (hp:P.stoodInHeld t=false) (hg:P.eqGuardType P.depth t=false) (n1:f1.name≠ "_") (n2:f2.name≠ "_") (o1:f1.offset=0) (o2:f2.offset=1)
  (t1:f1.type=e1) (t2:f2.type=e2) (u1:P.underlying e1=some (.int .i64)) (u2:P.underlying e2=some (.int .i64)):Eq2 P t:=by
 intro w x y a b c d
 have hf:P.fieldsOf t = #[f1,f2]:=by simp [Program.fieldsOf,h]
 have g1:∀ op,(eqGuard op t x y (.agg #[.int .i64 a,.int .i64 b]) (.agg #[.int .i64 c,.int .i64 d])).run P w = .ok () w:=fun op=>by
  cases op<;>simp [eqGuard,hg]
 have hpart:∀ (e:TypeId) (u:P.underlying e=some (.int .i64)) (p q:Int) (off:Nat) (r:Int),(#[Value.int .i64 p,.int .i64 q])[off]? = some (.int .i64 r)→(part e #[.int .i64 p,.int .i64 q] off).run P w = .ok (.int .i64 r) w:=fun e u p q off r hr=>by
  simp [part,isAgg,run_underlying u,hr]
 have heq:(Op.equalIn 10000 t (.agg #[.int .i64 a,.int .i64 b]) (.agg #[.int .i64 c,.int .i64 d])).run P w = .ok (a == c && b == d) w:=by
  rw [run_equalIn_struct w 9999 t _ _ (by rw [hf];exact h) hp,hf]
  simp only [Op.eqFields,n1,n2,ne_eq,not_false_eq_true,if_true,Sem.run_bind,o1,o2,t1,t2]
  rw [hpart e1 u1 a b 0 a rfl]
  simp only [Result.andThen_ok]
  rw [hpart e1 u1 c d 0 c rfl]
  simp only [Result.andThen_ok]
  rw [run_equalIn_int w 9998 e1 .i64 .i64 a c u1]
  simp only [Result.andThen_ok]
  by_cases h1:a=c
  ·subst h1
   simp only [beq_self_eq_true,Bool.not_true,Bool.false_eq_true,if_false,Bool.true_and,Sem.run_bind]
   rw [hpart e2 u2 a b 1 b rfl]
   simp only [Result.andThen_ok]
   rw [hpart e2 u2 a d 1 d rfl]
   simp only [Result.andThen_ok]
   rw [run_equalIn_int w 9998 e2 .i64 .i64 b d u2]
   simp only [Result.andThen_ok]
   by_cases h2:b=d
   ·subst h2;simp
   ·have:(b == d)=false:=by simpa using h2
    simp [this]
  ·have:(a == c)=false:=by simpa using h1
   simp [this]
 refine ⟨g1 _,g1 _,?_,?_⟩
 ·simp [binOp,Op.equal,Op.maxDepth,heq]
 ·simp [binOp,Op.equal,Op.maxDepth,heq]
end Go.Eng
end
section
namespace Go.Eng
open Go Go.RowKit
/-! regions that draw their order -/
structure Eqv (st st':St):Prop where
 nt:st'.nt=st.nt
 rn:st'.rn=st.rn
 σ:∀ x,lk x st'.σ=lk x st.σ
 m:∀ k,lkm k st'.m=lkm k st.m
theorem Eqv.refl (st:St):Eqv st st:=⟨rfl,rfl,fun _=>rfl,fun _=>rfl⟩
theorem Eqv.symm {a b:St} (h:Eqv a b):Eqv b a:=⟨h.nt.symm,h.rn.symm,fun x=>(h.σ x).symm,fun k=>(h.m k).symm⟩
theorem Eqv.trans {a b c:St} (h:Eqv a b) (k:Eqv b c):Eqv a c:=⟨k.nt.trans h.nt,k.rn.trans h.rn,fun x=>(k.σ x).trans (h.σ x),fun x=>(k.m x).trans (h.m x)⟩
theorem R.eqv {E:En} {st st':St} {a:Act} {w:World} (h:R E st a w) (e:Eqv st st'):R E st' a w:=by
 obtain ⟨c,h1,h2,h3,h4,h5⟩:=h
 exact ⟨c,h1,by rw [e.rn];exact h2.congr e.m,fun x=>by rw [e.σ];exact h3 x,by rw [e.nt];exact h4,h5⟩
theorem Eqv.ev {a b:St} (h:Eqv a b) (x:Operand):b.ev x=a.ev x:=by
 cases x<;>simp only [St.ev,h.σ]
/-- buildSlice without an owner -/
def bsl (T:List (TypeId × TyI)) (t:TypeId) (n:Nat) (parts:List (Nat × Operand)) (ev:Operand→AV):Option (Prop × AV) :=
 match elt T t,dop.partsE ev parts with
 | some (_,ie),some ps=>match fillL (fun k=>some (k * ie.size,ie.size)) (List.replicate (n * ie.size) .junk) ps with
  | some rs=>match DV.ofAll rs with
   | some ys=>some (0 < ie.size∧n * ie.size≤16777216,.sl none (chunks ie.size n ys))
   | none=>none
  | none=>none
 | _,_=>none
/-- the deterministic operations of such a region -/
def dopD (T:List (TypeId × TyI)) (gl:List (Nat × Value)) (op:Op) (ev:Operand→AV) (m:Nat→Option (List AV)):Option (Prop × AV) :=
 match op with
 | .buildSlice t n parts=>bsl T t n parts.toList ev
 | op=>dop T gl op ev m
theorem R.newrowN {E : En} {st : St} {a : Act} {w : World} {c : Gh} (hw : c.w = w) (G : Good E st.m st.rn c) (hσ : ∀ x, Rd c (lk x st.σ) (a.tmps.getD x undef)) (hnt : a.tmps.size = st.nt) (hd : a.defers = [])
    (dst : Option Nat) (e : TypeId) (sz : Nat) (els : List (List DV)) (n : Nat) (cur : Array Value) (hn : els.length = n) (hsz : cur.size = n * sz)
    (hrow : ∀ row ∈ els, row.length = sz) (hrd : ∀ p q row x, els[p]? = some row → row[q]? = some x → RdD w c.S x (cur.getD (p * sz + q) undef)) :
    R E (st.put dst (.sl none els)) (a.put dst (.slice (some ⟨w.heap.size, 0, none⟩) n n)) (w.alloc (.cells cur e)) := by
  subst hw
  have hnew : (c.w.alloc (.cells cur e)).heap[c.w.heap.size]? = some (.cells cur e (0, 0)) := Go.heap_alloc_new c.w _
  have hold : ∀ k, k < c.w.heap.size → (c.w.alloc (.cells cur e)).heap[k]? = c.w.heap[k]? := fun k hk => Below.heap_alloc c.w _ k hk
  have hkeep : Keeps c.w c.S (c.w.alloc (.cells cur e)) (addS c.S c.w.heap.size (n * sz)) :=
    keeps_of_lt (fun _ _ h => .inl h) fun b o _ hb => hold b hb
  let c' : Gh := { c with w := c.w.alloc (.cells cur e), S := addS c.S c.w.heap.size (n * sz) }
  have hk : ∀ {x v}, Rd c x v → Rd c' x v := fun h => h.keep (c' := c') hkeep rfl rfl rfl rfl
  have hle := G.hle
  have hone : ∀ o, o < n * sz → (cur.getD o undef).oneCell' = true := fun o ho' => by
    obtain ⟨h1, h2, h3⟩ := div_row ho'
    have e1 : els[o / sz]? = some (els[o / sz]'(by omega)) := List.getElem?_eq_getElem (by omega)
    have hl : (els[o / sz]'(by omega)).length = sz := hrow _ (List.getElem_mem _)
    have e2 : (els[o / sz]'(by omega))[o % sz]? = some ((els[o / sz]'(by omega))[o % sz]'(by omega)) := List.getElem?_eq_getElem (by omega)
    have := (hrd _ _ _ _ e1 e2).one
    rwa [h3] at this
  have hcell : ∀ o, o < n * sz → (c.w.alloc (.cells cur e)).cell? ⟨c.w.heap.size, o, none⟩ = some (cur.getD o undef) := fun o ho => by
    rw [cell_of_row _ _ _ cur e (0, 0) hnew]
    have : o < cur.size := by omega
    simp [this, Array.getD_eq_getD_getElem?]
  refine R.put (c := c') rfl ?_ (fun x => hk (hσ x)) hnt hd (.sl none els _ ?_ trivial)
  · refine { bl := G.bl, cg := G.cg, fr := grownL_of G.fr rfl rfl rfl (by show c.w.heap.size ≤ (c.w.alloc _).heap.size; simp) (fun k hk _ => hold k (by omega)), lx := G.lx, sx := fun b o h => ?_, s1 := fun b o v h hv => ?_, sS := fun b o h => ?_, sg := fun hdd o h => ?_, box := fun k ls hl => ?_, boxinj := G.boxinj,
              tok := fun k j => ?_, toktok := G.toktok, tokbox := G.tokbox, rk := fun h => (G.rk h).same (fun k hk _ => hold k (by omega)) (Nat.le_refl _) }
    · rcases h with h | ⟨rfl, h⟩
      · exact hkeep.lk h (G.sx b o h)
      · exact .inl ⟨_, hcell o h⟩
    · rcases h with h | ⟨rfl, h⟩
      · exact s1_keep G hkeep h hv
      · have := hcell o h
        rw [this] at hv
        obtain rfl := Option.some.inj hv
        exact hone o h
    · rcases h with h | ⟨rfl, h⟩
      · exact G.sS b o h
      · exact .inl hle
    · rcases h with h | ⟨h, _⟩
      · exact G.sg hdd o h
      · have := (G.rk hdd).1; omega
    · obtain ⟨cs, T, b1, b2, b3, b4, b5⟩ := G.box k ls hl
      have hbk := (G.box k ls hl).lt
      refine ⟨cs, T, b1, (hold _ hbk.2).trans b2, b3, fun j x hx => hk (b4 j x hx), fun o ho => ?_⟩
      rcases ho with ho | ⟨ho, _⟩
      · exact b5 o ho
      · change c.β k = c.w.heap.size at ho
        omega
    · refine tok_keep (G.tok k j) rfl rfl fun b hb => ?_
      have hl := (G.tok k j).lt hb
      refine ⟨hold b hl.2, fun o h => ?_⟩
      rcases h with h | ⟨h, _⟩
      · exact h
      · omega
  · refine .sl els c.w.heap.size 0 n n sz (fun k => cur.getD k undef) hn.symm (Nat.le_refl _) hrow (fun k hk => ⟨.inr ⟨rfl, by omega⟩, ?_⟩) (fun p q row x hp hq => (hrd p q row x hp hq).keep hkeep)
    rw [Nat.zero_add]; exact hcell k hk

section
variable {E:En} {st:St} {a:Act} {w:World} {o:Oper}
theorem op_buildSliceN (h:R E st a w) (t:TypeId) (n:Nat) (parts:Array (Nat × Operand)) (ho:o.op = .buildSlice t n parts) {T:List (TypeId × TyI)} (hT:TysOk E.P T) {c:Prop} {r:AV} (hd:bsl T t n parts.toList st.ev=some (c,r)) (hc:c):Yields E o (st.put o.dst r) a w:=by
 unfold bsl at hd
 split at hd
 ·rename_i e ie ps he hps
  split at hd
  ·rename_i rs hrs
   split at hd
   ·rename_i ys hys
    obtain ⟨rfl,rfl⟩:=Prod.mk.inj (Option.some.inj hd)
    obtain ⟨hpos,hsz⟩:=hc
    rw [partsE_eq] at hps
    obtain ⟨i,ht,hel,hte⟩:=elt_ok hT he
    obtain ⟨c,h1,h2,h3,h4,h5⟩:=h
    obtain ⟨q,z,dd,e1,e2,e3,e4,e5,_⟩:=hte.inf
    obtain ⟨p1,p2⟩:=partsL_ok h3 parts.toList ps hps
    let zero:Array Value:=if n * ie.size=0 then #[] else z.cells
    obtain ⟨cs',g1,g2,g3⟩:=fill_ok (c:=c) ps _ (List.replicate (n * ie.size) .junk) rs ((Array.range (n * ie.size)).map (zero[· % zero.size]!)) hrs p1 p2 (by simp) (fun j x hx=>by
     rw [List.getElem?_replicate] at hx
     split at hx
     ·obtain rfl:=Option.some.inj hx;exact .junk _
     ·cases hx)
    obtain ⟨o1,o2⟩:=ofAll_get hys
    have hlen:ys.length=n * ie.size:=by
     rw [o1]
     have:∀ (ps:List (Nat × List AV)) (zs rs:List AV),fillL (fun k=>some (k * ie.size,ie.size)) zs ps=some rs→rs.length=zs.length:=by
      intro ps
      induction ps with
      | nil=>intro zs rs h;obtain rfl:=Option.some.inj h;rfl
      | cons p ps ih =>
       intro zs rs h
       obtain ⟨k,ls⟩:=p
       simp only [fillL] at h
       split at h
       ·rw [ih _ _ h,setL_len]
       ·cases h
     rw [this ps _ rs hrs];simp
    refine ⟨.slice (some ⟨w.heap.size,0,none⟩) n n,w.alloc (.cells cs' e),?_,?_⟩
    ·unfold execOp;rw [ho]
     have hnot:¬ (16777216 < n * ie.size):=by omega
     by_cases h0:n * ie.size=0
     ·have hz:zero = #[]:=if_pos h0
      rw [hz] at g1
      have g1':Instr.fill (fun i=>some (i * ie.size,ie.size)) (Array.map (fun _=>(default:Value)) (Array.range 0)) (List.map (fun x=>(x.fst,a.eval x.snd)) parts.toList)=some cs':=by
       rw [← g1];simp [h0]
      simp [Instr.buildSlice,run_underlying (ht.el e hel),sizeOf_ok hte,h0,newRow]
      rw [g1'];simp
     ·have hz:zero=z.cells:=if_neg h0
      rw [hz] at g1
      simp [Instr.buildSlice,run_underlying (ht.el e hel),sizeOf_ok hte,h0,hnot,newRow,zeroValue,typeInfo,e1,e3]
      have g1':Instr.fill (fun i=>some (i * ie.size,ie.size)) (Array.map (fun x=>z.cells[x % z.cells.size]!) (Array.range (n * ie.size))) (List.map (fun x=>(x.fst,a.eval x.snd)) parts.toList)=some cs':=g1
      rw [g1'];simp
    ·refine R.newrowN h1 h2 h3 h4 h5 o.dst e ie.size (chunks ie.size n ys) n cs' (chunks_len _ _ _) (by rw [g2,← o1,hlen]) (chunks_row _ _ _ hlen) fun p r row x hp hr=>?_
     have hx:=chunks_get _ _ _ _ _ _ _ hp hr
     obtain ⟨y,hy,hyx⟩:=o2 _ _ hx
     rw [← h1]
     exact (g3 _ _ hy).ofAV hyx
   ·cases hd
  ·cases hd
 ·cases hd
theorem dopD_ok (h:R E st a w) {T:List (TypeId × TyI)} (hT:TysOk E.P T) {gl:List (Nat × Value)} (hgl:∀ p ∈ gl,p.2.oneCell'=true∧w.cell? ⟨p.1,0,none⟩=some p.2) {c:Prop} {r:AV} (hd:dopD T gl o.op st.ev (fun k=>lkm k st.m)=some (c,r)) (hc:c):Yields E o (st.put o.dst r) a w:=by
 unfold dopD at hd
 split at hd
 ·rename_i t n parts ho;exact op_buildSliceN h t n parts ho hT hd hc
 ·exact dop_ok h hT hgl hd hc
end
end Go.Eng
end
section
namespace Go.Eng
open Go Go.RowKit
/-- the state by functions -/
structure FS where
 nt:Nat
 σ:Nat→AV
 m:Nat→Option (List AV)
 rn:Nat
def St.fs (st:St):FS:=⟨st.nt,fun x=>lk x st.σ,fun k=>lkm k st.m,st.rn⟩
def FS.ev (s:FS):Operand→AV
 | .tmp t=>s.σ t
 | .const u=>AV.ofVal u
 | .global g=>.v (.pointer (some ⟨g,0,none⟩))
 | .func f=>.v (.func (.func f) #[] #[])
theorem fs_ev (st:St):st.fs.ev=st.ev:=by funext x;cases x<;>rfl
def FS.upd (s : FS) (dst : Option Nat) (r : AV) (k : Nat) : FS :=
  { s with σ := (match dst with | some d => if d < s.nt then fun x => if x = d then r else s.σ x else s.σ | none => s.σ), rn := s.rn + k }

theorem fs_put (st:St) (dst:Option Nat) (r:AV) (k:Nat):St.fs { (st.put dst r) with rn:=st.rn + k }=st.fs.upd dst r k:=by
 unfold St.fs FS.upd St.put
 cases dst with
 | none=>rfl
 | some d =>
  simp only
  split
  ·simp only [lk]
  ·rfl
theorem fs_put0 (st:St) (dst:Option Nat) (r:AV):(st.put dst r).fs=st.fs.upd dst r 0:=by
 rw [← fs_put];congr 1
 unfold St.put;split<;>try split
 all_goals rfl
theorem eqv_of_fs {a b:St} (h:a.fs=b.fs):Eqv a b:=by
 unfold St.fs at h
 injection h with h1 h2 h3 h4
 exact ⟨h1.symm,h4.symm,fun x=>(congrFun h2 x).symm,fun k=>(congrFun h3 k).symm⟩
theorem upd_comm (s:FS) (x y:Option Nat) (r r':AV) (k k':Nat) (h:∀ d,x=some d→y≠some d):(s.upd x r k).upd y r' k'=(s.upd y r' k').upd x r k:=by
 unfold FS.upd
 cases x with
 | none=>cases y<;>simp [Nat.add_right_comm]
 | some d =>
  cases y with
  | none=>simp [Nat.add_right_comm]
  | some e =>
   have hne:d≠e:=fun he=>h d rfl (he ▸ rfl)
   simp only [Nat.add_right_comm]
   congr 1
   split<;>split<;>try rfl
   funext z
   by_cases h1:z=d
   ·subst h1;rw [if_neg hne];simp
   ·simp [h1]
/- what an operation of such a region yields -/
structure Res where
 c:Prop
 p:AV→Prop
 k:Nat
 d:Bool
def argsF (ev:Operand→AV):List Operand→List AV
 | []=>[]
 | x::l=>(ev x).er::argsF ev l
theorem argsF_eq (st:St):∀ l,argsF st.ev l=argsE st l
 | []=>rfl
 | x::l=>by simp only [argsF,argsE,argsF_eq st l]
def dres (tb:Tb) (o:Op) (ev:Operand→AV) (m:Nat→Option (List AV)):Option Res :=
 match dopD tb.T tb.gl o ev m with
 | some (c,x)=>some ⟨c,fun y=>y=x,0,false⟩
 | none=>none
def ck (tb:Tb) (f:FuncId):Option Con:=match dk f tb.D with | some d=>some d.con | none=>gk f tb.G
theorem ck_ok {E:En} {tb:Tb} (h:TbOk E tb) {f:FuncId} {C:Con} (hf:ck tb f=some C):(Callable E.P f∧Valid E.P f C)∧∀ w,GrownL E.w0 w (if E.draws then some E.g else none) E.L→C.inv w:=by
 unfold ck at hf
 split at hf
 ·rename_i d hd;obtain rfl:=Option.some.inj hf;exact h.det hd
 ·exact h.get hf
def fres (tb:Tb) (o:Op) (ev:Operand→AV) (m:Nat→Option (List AV)):Option Res :=
 match o with
 | .call c=>match c.callee with
  | .value fo=>match fnOf (ev fo) with
   | some f=>match ck tb f with
    | some C=>some ⟨C.pre (argsF ev c.args.toList),fun y=>∃ r,C.post (argsF ev c.args.toList) r∧y=r.er,C.cost,C.draws⟩
    | none=>none
   | none=>none
  | .invoke xo name=>match ifcOf (ev xo) with
   | some (t,u)=>match mk t tb.M with
    | some (s,f)=>match ck tb f with
     | some C=>some ⟨s=name∧C.pre (u::argsF ev c.args.toList),fun y=>∃ r,C.post (u::argsF ev c.args.toList) r∧y=r.er,C.cost,C.draws⟩
     | none=>none
    | none=>none
   | none=>none
  | _=>dres tb o ev m
 | _=>dres tb o ev m
def gres (tb:Tb) (ops:Array Oper) (o:Oper) (s:FS):Option Res :=
 match o.guard with
 | none=>fres tb o.op s.ev s.m
 | some (j,want)=>match (ops[j]?).bind (·.dst) with
  | some d=>match s.σ d with
   | .v (.bool b)=>if d < s.nt then (if b=want then fres tb o.op s.ev s.m else some ⟨True,fun y=>y = .tup [],0,false⟩) else none
   | .tup []=>some ⟨True,fun y=>y = .tup [],0,false⟩
   | _=>none
  | none=>none
def fsem (tb:Tb) (ops:Array Oper) (o:Oper) (s:FS) (K:FS→Prop):Prop :=
 ∃ q,gres tb ops o s=some q∧q.c∧(∃ x,q.p x)∧(q.d=true→tb.draws=true∧s.rn + q.k≤lim)∧∀ x,q.p x→K (s.upd o.dst x q.k)
/-- stores and appends: they change places with fields' addresses -/
def isAp:Op→Bool
 | .store _ _ _=>true
 | .call c=>match c.callee with | .builtin .append=>true | _=>false
 | _=>false
/-- what works on the memory;all but stores and appends stand where they stand -/
def isTop:Op→Bool
 | .store _ _ _=>true
 | .call c=>match c.callee with | .builtin .append=>true | .builtin .copy=>true | .builtin .clear=>true | _=>false
 | .alloc _=>true
 | .box _ _=>true
 | .makeSlice _ _ _=>true
 | _=>false
def isAT (o:Oper):Bool:=o.guard.isNone && isAp o.op
def isT (o:Oper):Bool:=o.guard.isNone && isTop o.op
def isFA (o:Oper):Bool:=o.guard.isNone && (match o.op with | .fieldAddr _ _ _=>true | _=>false)
def isCall (o:Oper):Bool:=match o.op with | .call c=>(match c.callee with | .value _=>true | .invoke _ _=>true | _=>false) | _=>false
/-- nothing is appended to a view -/
def noX (X:List Nat) (dst:Option Nat) (o:Op) (ev:Operand→AV):Bool:=match o with
 | .call c=>match c.callee with
  | .builtin .append=>(match c.args.toList with | x::_=>(xsOf (ev x)).isNone && !isNlX (ev x) dst X | []=>true)
  | _=>true
 | _=>true
theorem noX_congr {X:List Nat} {dst:Option Nat} {o:Op} {ev ev':Operand→AV} (h:∀ z ∈ o.operands,ev z=ev' z):noX X dst o ev=noX X dst o ev':=by
 unfold noX
 split
 ·rename_i c
  have hh:∀ z ∈ c.args.toList,ev z=ev' z:=fun z hz=>h z (by simp [Op.operands,Call.operands];exact .inr (by simpa using hz))
  split
  ·generalize c.args.toList=l at hh
   cases l with
   | nil=>rfl
   | cons x l=>simp only [hh x (by simp)]
  ·rfl
 ·rfl
def tsem (tb:Tb) (o:Oper) (s:FS) (K:FS→Prop):Prop:=∃ st:St,st.fs=s∧noX tb.X o.dst o.op st.ev=true∧stp tb o st fun st'=>K st'.fs
def osem (tb:Tb) (ops:Array Oper) (o:Oper) (s:FS) (K:FS→Prop):Prop :=
 if isT o then tsem tb o s K else fsem tb ops o s K
/- evaluation -/
def dcl (tb:Tb) (f:FuncId) (as:List AV) (st:St) (dst:Option Nat) (K:St→Prop):Prop :=
 match dk f tb.D with
 | some d=>match d.g as with
  | some (c,r)=>c∧K (st.put dst r.er)
  | none=>False
 | none=>match gk f tb.G with
  | some C=>(C.draws=true→tb.draws=true∧st.rn + C.cost≤lim)∧C.pre as∧(∃ r,C.post as r)∧∀ r,C.post as r→K (st.called dst { C with own:=false } r)
  | none=>False
def dstp (tb:Tb) (o:Oper) (st:St) (K:St→Prop):Prop :=
 match o.op with
 | .call c=>match c.callee with
  | .value fo=>match fnOf (st.ev fo) with
   | some f=>dcl tb f (argsE st c.args.toList) st o.dst K
   | none=>False
  | .invoke xo name=>match ifcOf (st.ev xo) with
   | some (t,u)=>match mk t tb.M with
    | some (s,f)=>s=name∧dcl tb f (u::argsE st c.args.toList) st o.dst K
    | none=>False
   | none=>False
  | _=>match dopD tb.T tb.gl o.op st.ev (fun k=>lkm k st.m) with
   | some (c,r)=>c∧K (st.put o.dst r)
   | none=>False
 | _=>match dopD tb.T tb.gl o.op st.ev (fun k=>lkm k st.m) with
  | some (c,r)=>c∧K (st.put o.dst r)
  | none=>False
def dstpG (tb:Tb) (ops:List Oper) (o:Oper) (st:St) (K:St→Prop):Prop :=
 match o.guard with
 | none=>match isTop o.op with
  | true=>noX tb.X o.dst o.op st.ev=true∧stp tb o st K
  | false=>dstp tb o st K
 | some (j,want)=>match ops[j]? with
  | some g=>match g.dst with
   | some d=>match lk d st.σ with
    | .v (.bool b)=>d < st.nt∧gs b (match want with | true=>dstp tb o (st.know d true) K | false=>K ((st.know d true).put o.dst (.tup [])))
      (match want with | true=>K ((st.know d false).put o.dst (.tup [])) | false=>dstp tb o (st.know d false) K)
    | .tup []=>K (st.put o.dst (.tup []))
    | _=>False
   | none=>False
  | none=>False
theorem stp_mono {tb:Tb} {o:Oper} {st:St} {K K':St→Prop} (hk:∀ st',K st'→K' st') (h:stp tb o st K):stp tb o st K':=by
 unfold stp at *
 repeat' split at h
 all_goals (try exact h.elim)
 all_goals (try (simp only [*,-h]))
 all_goals first
  | exact hk _ h
  | exact ⟨h.1,hk _ h.2⟩
  | exact ⟨h.1,h.2.1,fun r hr=>hk _ (h.2.2 r hr)⟩
  | exact callA_mono hk h
  | exact ⟨h.1,callA_mono hk h.2⟩
  | exact callM_mono hk h
  | exact callR_mono hk h
  | exact ⟨h.1,fun cap' hc=>hk _ (h.2 cap' hc)⟩
  | exact ⟨h.1,fun b r h1 h2=>hk _ (h.2 b r h1 h2)⟩
  | exact ⟨h.1,fun hc=>hk _ (h.2.1 hc),fun hc cap' hc'=>hk _ (h.2.2 hc cap' hc')⟩
theorem dcl_res {tb:Tb} {f:FuncId} {as:List AV} {st:St} {dst:Option Nat} {K:St→Prop} {K':FS→Prop} (hk:∀ st',K st'→K' st'.fs) (h:dcl tb f as st dst K) :
  ∃ C,ck tb f=some C∧C.pre as∧(∃ x,∃ r,C.post as r∧x=r.er)∧(C.draws=true→tb.draws=true∧st.fs.rn + C.cost≤lim)∧∀ x,(∃ r,C.post as r∧x=r.er)→K' (st.fs.upd dst x C.cost):=by
 unfold dcl at h
 unfold ck
 split at h
 ·rename_i d hd
  split at h
  ·rename_i c' r hg
   exact ⟨_,rfl,⟨c',r,hg,h.1⟩,⟨_,r,⟨c',hg⟩,rfl⟩,fun h=>(by cases h),fun x ⟨r',⟨c2,hr⟩,hx⟩=>by
    rw [hg] at hr
    obtain ⟨_,rfl⟩:=Prod.mk.inj (Option.some.inj hr)
    subst hx
    show K' (st.fs.upd dst r.er 0)
    rw [← fs_put0];exact hk _ h.2⟩
  ·exact h.elim
 ·split at h
  ·rename_i C hC
   obtain ⟨h1,h2,⟨r,h3⟩,h4⟩:=h
   have h4':∀ r,C.post as r→K { (st.put dst r.er) with rn:=st.rn + C.cost }:=fun r hr=>by
    have:=h4 r hr
    unfold St.called at this
    simpa using this
   exact ⟨C,hC,h2,⟨_,r,h3,rfl⟩,h1,fun x ⟨r,hr,hx⟩=>by subst hx;rw [← fs_put];exact hk _ (h4' r hr)⟩
  ·exact h.elim
theorem dstp_fres {tb : Tb} {o : Oper} {st : St} {K : St → Prop} {K' : FS → Prop} (hk : ∀ st', K st' → K' st'.fs) (h : dstp tb o st K) :
    ∃ q, fres tb o.op st.fs.ev st.fs.m = some q ∧ q.c ∧ (∃ x, q.p x) ∧ (q.d = true → tb.draws = true ∧ st.fs.rn + q.k ≤ lim) ∧ ∀ x, q.p x → K' (st.fs.upd o.dst x q.k) := by
  rw [fs_ev]
  have hd : (match dopD tb.T tb.gl o.op st.ev (fun k => lkm k st.m) with | some (c, r) => c ∧ K (st.put o.dst r) | none => False) → ∃ q, dres tb o.op st.ev st.fs.m = some q ∧ q.c ∧ (∃ x, q.p x) ∧ (q.d = true → tb.draws = true ∧ st.fs.rn + q.k ≤ lim) ∧ ∀ x, q.p x → K' (st.fs.upd o.dst x q.k) := by
    intro h
    unfold dres
    split at h
    · rename_i c r hd
      have hd' : dopD tb.T tb.gl o.op st.ev st.fs.m = some (c, r) := hd
      rw [hd']
      exact ⟨_, rfl, h.1, ⟨r, rfl⟩, fun h => (by cases h), fun x hx => by cases hx; rw [← fs_put0]; exact hk _ h.2⟩
    · exact h.elim
  unfold dstp at h
  unfold fres
  split at h
  · rename_i c ho
    rw [ho] at hd ⊢
    split at h
    · rename_i fo hc
      split at h
      · rename_i f hf
        obtain ⟨C, h1, h2, h3, h4, h5⟩ := dcl_res hk h
        rw [h1]
        rw [argsF_eq]
        exact ⟨_, rfl, h2, h3, h4, h5⟩
      · exact h.elim
    · rename_i xo name hc
      split at h
      · rename_i t u hf
        split at h
        · rename_i s f hm
          obtain ⟨h0, h⟩ := h
          obtain ⟨C, h1, h2, h3, h4, h5⟩ := dcl_res hk h
          simp only [hm, h1]
          rw [argsF_eq]
          exact ⟨_, rfl, ⟨h0, h2⟩, h3, h4, h5⟩
        · exact h.elim
      · exact h.elim
    · rename_i hc1 hc2
      rw [ho] at h
      first
        | exact hd h
        | (split
           · rename_i fo hfo; exact absurd hfo (hc1 fo)
           · rename_i xo nm hfo; exact absurd hfo (hc2 xo nm)
           · exact hd h)
  · rename_i hc
    first
      | exact hd h
      | (split
         · rename_i c ho; exact absurd ho (hc c)
         · exact hd h)

theorem dstpG_osem {tb:Tb} {ops:List Oper} {o:Oper} {st:St} {K:St→Prop} {K':FS→Prop} (hk:∀ st',K st'→K' st'.fs) (h:dstpG tb ops o st K):osem tb ops.toArray o st.fs K':=by
 unfold dstpG at h
 unfold osem isT
 split at h
 ·rename_i hg
  rw [hg]
  cases ht:isTop o.op with
  | true =>
   rw [ht] at h
   simp only [Option.isNone_none,Bool.and_self,if_true]
   exact ⟨st,rfl,h.1,stp_mono hk h.2⟩
  | false =>
   rw [ht] at h
   simp only [Option.isNone_none,Bool.and_false,Bool.false_eq_true,if_false]
   unfold fsem gres
   rw [hg]
   exact dstp_fres hk h
 ·rename_i j want hg
  rw [hg]
  simp only [Option.isNone_some,Bool.false_and,Bool.false_eq_true,if_false]
  unfold fsem gres
  rw [hg]
  split at h
  ·rename_i g hgj
   split at h
   ·rename_i d hd
    have e:(ops.toArray[j]?).bind (·.dst)=some d:=by simp [hgj,hd]
    simp only [e]
    have hfs:∀ v,lk d st.σ = .v (.bool v)→(st.know d v).fs=st.fs:=fun v hv=>by
     have e:(fun x=>lk x (st.know d v).σ)=(fun x=>lk x st.σ):=funext fun x=>lk_know hv x
     show FS.mk st.nt _ _ st.rn=FS.mk st.nt _ _ st.rn
     rw [e];rfl
    have hp:∀ st1:St,st1.fs=st.fs→K (st1.put o.dst (.tup []))→∃ q,(some ⟨True,fun y=>y = .tup [],0,false⟩:Option Res)=some q∧q.c∧(∃ x,q.p x)∧(q.d=true→tb.draws=true∧st.fs.rn + q.k≤lim)∧∀ x,q.p x→K' (st.fs.upd o.dst x q.k):=fun st1 hf h=>⟨_,rfl,trivial,⟨_,rfl⟩,fun h=>(by cases h),fun x hx=>by cases hx;rw [← hf,← fs_put0];exact hk _ h⟩
    split at h
    ·rename_i b hlk
     have hlk':st.fs.σ d = .v (.bool b):=hlk
     obtain ⟨hlt,h0⟩:=h
     have h1:b=want→dstp tb o (st.know d want) K:=fun e=>by subst e;cases b<;>simpa [gs] using h0
     have h2:b = !want→K ((st.know d (!want)).put o.dst (.tup [])):=fun e=>by subst e;cases want<;>simpa [gs] using h0
     have hlt':d < st.fs.nt:=hlt
     simp only [hlk',if_pos hlt']
     by_cases hb:b=want
     ·rw [if_pos hb]
      have:=dstp_fres hk (h1 hb)
      rw [hfs want (by rw [hlk,hb])] at this
      exact this
     ·rw [if_neg hb]
      have hb':b = !want:=by cases b<;>cases want<;>simp_all
      exact hp _ (hfs _ (by rw [hlk,hb'])) (h2 hb')
    ·rename_i hlk
     have hlk':st.fs.σ d = .tup []:=hlk
     simp only [hlk']
     exact hp st rfl h
    ·exact h.elim
   ·exact h.elim
  ·exact h.elim
end Go.Eng
end
section
namespace Go.Eng
open Go Go.RowKit
theorem partsE_congr {ev ev':Operand→AV}:∀ l:List (Nat × Operand),(∀ p ∈ l,ev p.2=ev' p.2)→dop.partsE ev l=dop.partsE ev' l
 | [],_=>rfl
 | (k,x)::l,h=>by
  have h1:=h (k,x) (by simp)
  simp only at h1
  simp only [dop.partsE,h1,partsE_congr l (fun p hp=>h p (by simp [hp]))]
theorem argsF_congr {ev ev':Operand→AV}:∀ l:List Operand,(∀ x ∈ l,ev x=ev' x)→argsF ev l=argsF ev' l
 | [],_=>rfl
 | x::l,h=>by simp only [argsF,h x (by simp),argsF_congr l (fun p hp=>h p (by simp [hp]))]
theorem dop_congr (T:List (TypeId × TyI)) (gl:List (Nat × Value)) (o:Op) {ev ev':Operand→AV} (m:Nat→Option (List AV)) (h:∀ x ∈ o.operands,ev x=ev' x):dop T gl o ev m=dop T gl o ev' m:=by
 cases o
 case call c =>
  obtain ⟨callee,args,ats⟩:=c
  simp only [dop]
  cases callee<;>try rfl
  rename_i b
  cases b<;>try rfl
  all_goals
   have hh:∀ x ∈ args.toList,ev x=ev' x:=fun x hx=>h x (by simp [Op.operands,Call.operands];simpa using hx)
   generalize args.toList=l at hh ⊢
   match l,hh with
   | [],_=>rfl
   | [x],hh =>
    have e:=hh x (by simp)
    generalize ats.toList=l2
    match l2 with
    | []=>rfl
    | [t]=>simp only [e]
    | _::_::_=>rfl
   | _::_::_,_=>rfl
 case slice t x lo hi mx =>
  have hx:=h x (by simp [Op.operands])
  cases mx<;>cases lo<;>cases hi<;>simp only [dop,hx,bnd]
  ·rename_i y;have hy:=h y (by simp [Op.operands]);simp only [hy]
  ·rename_i y;have hy:=h y (by simp [Op.operands]);simp only [hy]
  ·rename_i y z;have hy:=h y (by simp [Op.operands]);have hz:=h z (by simp [Op.operands]);simp only [hy,hz]
 case build t ps =>
  simp only [dop,partsE_congr ps.toList fun p hp=>h p.2 (by simp [Op.operands];exact ⟨p.1,by simpa using hp⟩)]
 case binOp op t x y t' =>
  have hx:=h x (by simp [Op.operands])
  have hy:=h y (by simp [Op.operands])
  cases y with
  | const v=>cases v<;>first | (simp only [dop,hx,hy];done) | (rename_i p;cases p<;>simp only [dop,hx,hy])
  | _=>simp only [dop,hx,hy]
 case unOp op t x=>have hx:=h x (by simp [Op.operands]);cases op<;>simp only [dop,hx]
 all_goals first
  | rfl
  | (rename_i x;have hx:=h x (by simp [Op.operands]);simp only [dop,hx];done)
  | (rename_i x y;have hx:=h x (by simp [Op.operands]);simp only [dop,hx];done)
  | (rename_i x y;have hy:=h y (by simp [Op.operands]);simp only [dop,hy];done)
  | (rename_i x y z;have hx:=h x (by simp [Op.operands]);have hy:=h y (by simp [Op.operands]);simp only [dop,hx,hy];done)
  | (rename_i x y z;have hx:=h y (by simp [Op.operands]);have hy:=h z (by simp [Op.operands]);simp only [dop,hx,hy];done)
  | (rename_i x y z;have hx:=h x (by simp [Op.operands]);have hy:=h y (by simp [Op.operands]);have hz:=h z (by simp [Op.operands]);simp only [dop,hx,hy,hz];done)
theorem fres_congr (tb:Tb) (o:Op) {ev ev':Operand→AV} (m:Nat→Option (List AV)) (h:∀ x ∈ o.operands,ev x=ev' x):fres tb o ev m=fres tb o ev' m:=by
 have hd:dres tb o ev m=dres tb o ev' m:=by
  have e:dopD tb.T tb.gl o ev m=dopD tb.T tb.gl o ev' m:=by
   cases o
   case buildSlice t n parts=>simp only [dopD,bsl,partsE_congr parts.toList fun p hp=>h p.2 (by simp [Op.operands];exact ⟨p.1,by simpa using hp⟩)]
   all_goals exact dop_congr tb.T tb.gl _ m h
  unfold dres
  rw [e]
 unfold fres
 split
 ·rename_i c
  split
  ·rename_i fo hc
   rw [h fo (by simp [Op.operands,Call.operands,hc]),argsF_congr c.args.toList fun x hx=>h x (by simp [Op.operands,Call.operands];exact .inr (by simpa using hx))]
  ·rename_i xo nm hc
   rw [h xo (by simp [Op.operands,Call.operands,hc]),argsF_congr c.args.toList fun x hx=>h x (by simp [Op.operands,Call.operands];exact .inr (by simpa using hx))]
  ·exact hd
 ·exact hd
theorem upd_ev {s:FS} {dst:Option Nat} {r:AV} {k:Nat} {x:Operand} (h:∀ d,dst=some d→x≠.tmp d):(s.upd dst r k).ev x=s.ev x:=by
 cases dst with
 | none=>cases x<;>rfl
 | some d =>
  cases x with
  | tmp t =>
   have hne:t≠d:=fun e=>h d rfl (e ▸ rfl)
   simp only [FS.ev,FS.upd]
   split
   ·exact if_neg hne
   ·rfl
  | _=>rfl
theorem looksAt_op {ops:Array Oper} {o:Oper} {d:Nat} (h:d ∉ o.looksAt ops):∀ x ∈ o.op.operands,x≠.tmp d:=fun x hx e=>h (by
 subst e
 exact List.mem_append_left _ (List.mem_filterMap.2 ⟨.tmp d,by simpa using hx,rfl⟩))
theorem gres_upd {tb:Tb} {ops:Array Oper} {o:Oper} {s:FS} {dst:Option Nat} {r:AV} {k:Nat} (h:∀ d,dst=some d→d ∉ o.looksAt ops):gres tb ops o (s.upd dst r k)=gres tb ops o s:=by
 have hf:fres tb o.op (s.upd dst r k).ev (s.upd dst r k).m=fres tb o.op s.ev s.m:=fres_congr tb o.op s.m fun x hx=>upd_ev fun d hd=>looksAt_op (h d hd) x hx
 unfold gres
 rw [hf]
 cases hg:o.guard with
 | none=>rfl
 | some jw =>
  obtain ⟨j,want⟩:=jw
  simp only
  cases hb:(ops[j]?).bind (·.dst) with
  | none=>rfl
  | some d =>
   have:(s.upd dst r k).σ d=s.σ d:=by
    have:=upd_ev (s:=s) (dst:=dst) (r:=r) (k:=k) (x:=.tmp d) fun e he hh=>by
     injection hh with hh;subst hh
     exact h _ he (by simp [Oper.looksAt,hg,hb])
    exact this
   simp only [this]
   rfl
theorem gres_call {tb:Tb} {ops:Array Oper} {o:Oper} {s:FS} {q:Res} (h:gres tb ops o s=some q) (hc:isCall o=false):q.k=0∧q.d=false:=by
 have hd:∀ q,dres tb o.op s.ev s.m=some q→q.k=0∧q.d=false:=fun q h=>by
  unfold dres at h
  split at h
  ·obtain rfl:=Option.some.inj h;exact ⟨rfl,rfl⟩
  ·cases h
 have hf:∀ q,fres tb o.op s.ev s.m=some q→q.k=0∧q.d=false:=fun q h=>by
  unfold fres at h
  split at h
  ·rename_i c ho
   split at h
   ·rename_i fo hfo
    simp [isCall,ho,hfo] at hc
   ·rename_i xo nm hfo
    simp [isCall,ho,hfo] at hc
   ·exact hd q h
  ·exact hd q h
 unfold gres at h
 split at h
 ·exact hf q h
 ·split at h
  ·split at h
   ·split at h
    ·split at h
     ·exact hf q h
     ·obtain rfl:=Option.some.inj h;exact ⟨rfl,rfl⟩
    ·cases h
   ·obtain rfl:=Option.some.inj h;exact ⟨rfl,rfl⟩
   ·cases h
  ·cases h
/-- two operations that read and yield change places -/
theorem fswap {tb:Tb} {ops:Array Oper} {x y:Oper} {s:FS} {K:FS→Prop} (hap:Oper.apart ops x y=true) (hc:(isCall x && isCall y)=false)
  (h:fsem tb ops x s fun s'=>fsem tb ops y s' K):fsem tb ops y s fun s'=>fsem tb ops x s' K:=by
 obtain ⟨a1,a2,a3⟩:=Oper.apart_spec hap
 obtain ⟨q,h1,h2,⟨r0,h3⟩,h4,h5⟩:=h
 obtain ⟨q',g1,g2,g3,g4,_⟩:=h5 r0 h3
 rw [gres_upd a1] at g1
 refine ⟨q',g1,g2,g3,fun hd=>⟨(g4 hd).1,?_⟩,fun x' hx'=>⟨q,by rw [gres_upd a3];exact h1,h2,⟨r0,h3⟩,fun hd=>⟨(h4 hd).1,?_⟩,fun x'' hx''=>?_⟩⟩
 ·have:=(g4 hd).2
  have e:(s.upd x.dst r0 q.k).rn=s.rn + q.k:=rfl
  omega
 ·have:=(h4 hd).2
  show s.rn + q'.k + q.k≤lim
  cases hx:isCall x with
  | true =>
   rw [hx] at hc
   have:=(gres_call g1 (by simpa using hc)).1
   omega
  | false =>
   have:=(gres_call h1 hx).2
   rw [this] at hd;cases hd
 ·obtain ⟨q2,k1,_,_,_,k5⟩:=h5 x'' hx''
  rw [gres_upd a1,g1] at k1
  obtain rfl:=Option.some.inj k1
  rw [← upd_comm _ _ _ _ _ _ _ a2]
  exact k5 x' hx'
end Go.Eng
end
section
namespace Go.Eng
open Go Go.RowKit
theorem put_ev {st:St} {dst:Option Nat} {r:AV} {x:Operand} (h:∀ d,dst=some d→x≠.tmp d):(st.put dst r).ev x=st.ev x:=by
 rw [← fs_ev,← fs_ev,fs_put0];exact upd_ev h
theorem put_nt (st:St) (dst:Option Nat) (r:AV):(st.put dst r).nt=st.nt:=by
 unfold St.put;split<;>try split
 all_goals rfl
/-- behind a write the rest stands,but for owners -/
structure TT (x:Oper) (st n:St):Prop where
 nt:n.nt=st.nt
 σ:∀ z,x.dst≠some z→lk z n.σ=lk z st.σ∨∃ a b,lk z n.σ=((lk z st.σ).strip a).strip b
theorem fs_upd_of {a b:St} {dst:Option Nat} (h1:a.nt=b.nt) (h2:a.rn=b.rn) (h3:∀ k,lkm k a.m=lkm k b.m) (h4:∀ z,dst≠some z→lk z a.σ=lk z b.σ) (h5:∀ d,dst=some d→¬ d < b.nt→lk d a.σ=lk d b.σ) (r:AV):a.fs.upd dst r 0=b.fs.upd dst r 0:=by
 have e3:a.fs.m=b.fs.m:=funext h3
 cases dst with
 | none =>
  have e4:a.fs.σ=b.fs.σ:=funext fun z=>h4 z (by simp)
  simp only [FS.upd,e4,e3]
  show FS.mk a.nt _ _ _=FS.mk b.nt _ _ _
  rw [h1,show a.fs.rn=b.fs.rn from h2]
 | some d =>
  by_cases hd:d < b.nt
  ·have hd':d < a.nt:=by omega
   simp only [FS.upd,e3]
   rw [if_pos (show d < a.fs.nt from hd'),if_pos (show d < b.fs.nt from hd)]
   rw [show a.fs.nt=b.fs.nt from h1,show a.fs.rn=b.fs.rn from h2]
   congr 1
   funext z
   by_cases hz:z=d
   ·simp [hz]
   ·simp only [if_neg hz];exact h4 z (fun e=>hz (Option.some.inj e).symm)
  ·have hd':¬ d < a.nt:=by omega
   simp only [FS.upd,e3]
   rw [if_neg (show ¬ d < a.fs.nt from hd'),if_neg (show ¬ d < b.fs.nt from hd)]
   rw [show a.fs.nt=b.fs.nt from h1,show a.fs.rn=b.fs.rn from h2]
   congr 1
   funext z
   by_cases hz:z=d
   ·subst hz;exact h5 _ rfl hd
   ·exact h4 z (fun e=>hz (Option.some.inj e).symm)
theorem lk_put (z:Nat) (st:St) (dst:Option Nat) (r:AV):lk z (st.put dst r).σ=match dst with | some d=>if d < st.nt∧z=d then r else lk z st.σ | none=>lk z st.σ:=by
 cases dst with
 | none=>rfl
 | some d =>
  simp only [St.put]
  by_cases h:d < st.nt
  ·simp only [h,if_true,lk,true_and]
  ·simp only [h,if_false,false_and]
theorem stp_put {tb:Tb} {ops:Array Oper} {x:Oper} {st:St} {K:St→Prop} {dst:Option Nat} {r:AV} (ht:isAp x.op=true) (hl:∀ d,dst=some d→d ∉ x.looksAt ops) (hd:∀ d,dst=some d→x.dst≠some d) (hx:noX tb.X x.dst x.op st.ev=true)
  (h:stp tb x st K):stp tb x (st.put dst r) fun n=>∃ n0,K n0∧TT x st n0∧TT x (st.put dst r) n∧∀ r',n.fs.upd dst r' 0=n0.fs.upd dst r' 0:=by
 have hev:∀ z ∈ x.op.operands,(st.put dst r).ev z=st.ev z:=fun z hz=>put_ev fun d e=>looksAt_op (hl d e) z hz
 unfold stp at h ⊢
 match ho:x.op,ht with
 | .store t a b,_ =>
  rw [ho] at h hev
  simp only at h ⊢
  rw [hev a (by simp [Op.operands]),hev b (by simp [Op.operands]),put_m]
  split at h
  ·rename_i d off i xs hxd hx hi hy
   split at h
   ·rename_i ls hls
    try simp only [hxd,hls]
    refine ⟨h.1,_,h.2,⟨rfl,fun z _=>.inl rfl⟩,⟨rfl,fun z _=>.inl rfl⟩,fun r'=>fs_upd_of (a:={ (st.put dst r) with m:=repm d (setL ls off xs) st.m }) (b:={ st with m:=repm d (setL ls off xs) st.m }) (put_nt _ _ _) (put_rn _ _ _) (fun k=>rfl) (fun z hz=>?_) (fun d' e hn=>?_) r'⟩
    ·show lk z (st.put dst r).σ=lk z st.σ
     rw [lk_put]
     cases dst with
     | none=>rfl
     | some e=>simp only;rw [if_neg (fun hh=>hz (by rw [hh.2]))]
    ·show lk d' (st.put dst r).σ=lk d' st.σ
     rw [lk_put,e];simp only;rw [if_neg (fun hh=>hn hh.1)]
   ·exact h.elim
  ·exact h.elim
 | .call c,ht =>
  obtain ⟨callee,args,ats⟩:=c
  rw [ho] at h hev
  match callee,ht with
  | .builtin .append,_ =>
   simp only at h ⊢
   have hh:∀ z ∈ args.toList,(st.put dst r).ev z=st.ev z:=fun z hz=>hev z (by simp [Op.operands,Call.operands];simpa using hz)
   rw [ho] at hx
   simp only [noX] at hx
   generalize args.toList=l at h hh hx ⊢
   split at h
   ·rename_i p q t t' ha
    simp only at hx
    simp only [hh p (by simp),hh q (by simp)]
    simp only [Bool.and_eq_true,Bool.not_eq_true'] at hx
    have hx2:=hx.2
    have hx:xsOf (st.ev p)=none:=by simpa using hx.1
    simp only [hx,hx2] at h ⊢
    split at h
    ·rename_i d e ie hxd he
     try simp only [hxd]
     split at h
     ·rename_i s els ys hown hys
      try simp only [hown,hys]
      have tt:∀ st:St,TT x st ((st.strip2 s d).put (some d) (.sl (some (d,0,e)) (els++ys))):=fun st=>⟨by rw [put_nt,strip2_nt],fun z hz=>by
       rw [lk_put]
       simp only
       rw [if_neg (fun hh=>hz (by rw [hxd,hh.2])),strip2_σ,lk_strip,lk_strip]
       exact .inr ⟨s,d,rfl⟩⟩
      refine ⟨h.1,_,h.2,tt st,tt _,fun r'=>fs_upd_of ?_ ?_ (fun k=>?_) (fun z hz=>?_) (fun d' e' hn=>?_) r'⟩
      ·rw [put_nt,put_nt,strip2_nt,strip2_nt,put_nt]
      ·rw [put_rn,put_rn,strip2_rn,strip2_rn,put_rn]
      ·rw [put_m,put_m,strip2_m,strip2_m,put_m]
      ·rw [lk_put,lk_put]
       simp only [strip2_σ,strip2_nt,put_nt]
       split
       ·rfl
       ·rw [lk_strip,lk_strip,lk_strip,lk_strip,lk_put]
        cases dst with
        | none=>rfl
        | some e=>simp only;rw [if_neg (fun hh=>hz (by rw [hh.2]))]
      ·rw [put_nt,strip2_nt] at hn
       rw [lk_put,lk_put]
       simp only [strip2_σ,strip2_nt,put_nt]
       split
       ·rfl
       ·rw [lk_strip,lk_strip,lk_strip,lk_strip,lk_put,e']
        simp only;rw [if_neg (fun hh=>hn hh.1)]
     ·exact h.elim
    ·exact h.elim
   ·exact h.elim
theorem gres_fa {tb:Tb} {ops:Array Oper} {y:Oper} {s:FS} {q:Res} (hy:isFA y=true) (h:gres tb ops y s=some q) :
  ∃ t o k off fi r,y.op = .fieldAddr t o k∧fld tb.T t k=some (off,fi)∧q=⟨0 < fi.size,fun z=>z=r,0,false⟩∧((∃ d n,s.ev o = .loc d n∧r = .loc d (n + off))∨∃ ls,s.ev o = .el ls∧r = .el (ls.drop off)):=by
 simp only [isFA,Bool.and_eq_true,Option.isNone_iff_eq_none] at hy
 obtain ⟨hg,ho⟩:=hy
 match hop:y.op,ho with
 | .fieldAddr t o k,_ =>
  unfold gres at h
  rw [hg,hop] at h
  simp only [fres,dres,dopD,dop] at h
  split at h
  ·rename_i c x hx
   obtain rfl:=Option.some.inj h
   split at hx
   ·rename_i d n off fi he hf
    obtain ⟨rfl,rfl⟩:=Prod.mk.inj (Option.some.inj hx)
    exact ⟨t,o,k,off,fi,_,rfl,hf,rfl,.inl ⟨d,n,he,rfl⟩⟩
   ·rename_i ls off fi he hf
    obtain ⟨rfl,rfl⟩:=Prod.mk.inj (Option.some.inj hx)
    exact ⟨t,o,k,off,fi,_,rfl,hf,rfl,.inr ⟨ls,he,rfl⟩⟩
   ·cases hx
  ·cases h
theorem gres_fa' {tb:Tb} {ops:Array Oper} {y:Oper} {s:FS} {t:TypeId} {o:Operand} {k off:Nat} {fi:TyI} {r:AV} (hy:isFA y=true) (hop:y.op = .fieldAddr t o k) (hf:fld tb.T t k=some (off,fi))
  (h:(∃ d n,s.ev o = .loc d n∧r = .loc d (n + off))∨∃ ls,s.ev o = .el ls∧r = .el (ls.drop off)):gres tb ops y s=some ⟨0 < fi.size,fun z=>z=r,0,false⟩:=by
 simp only [isFA,Bool.and_eq_true,Option.isNone_iff_eq_none] at hy
 unfold gres
 rw [hy.1,hop]
 simp only [fres,dres,dopD,dop]
 rcases h with ⟨d,n,h1,rfl⟩ | ⟨ls,h1,rfl⟩
 ·rw [h1,hf]
 ·rw [h1,hf]
theorem strip_loc {x:AV} {d k n:Nat}:x.strip d = .loc k n↔x = .loc k n:=by cases x<;>simp [AV.strip]
theorem strip_el {x:AV} {d:Nat} {ls:List DV}:x.strip d = .el ls↔x = .el ls:=by cases x<;>simp [AV.strip]
theorem TT.ev {x:Oper} {st n:St} (h:TT x st n) {o:Operand} (ho:∀ d,x.dst=some d→o≠.tmp d):n.ev o=st.ev o∨∃ a b,n.ev o=((st.ev o).strip a).strip b:=by
 cases o with
 | tmp t=>exact h.σ t fun e=>ho t e rfl
 | const v=>exact .inl rfl
 | global g=>exact .inl rfl
 | func f=>exact .inl rfl
theorem TT.loc {x:Oper} {st n:St} (h:TT x st n) {o:Operand} (ho:∀ d,x.dst=some d→o≠.tmp d) {k m:Nat}:n.ev o = .loc k m↔st.ev o = .loc k m:=by
 rcases h.ev ho with e | ⟨a,b,e⟩
 ·rw [e]
 ·rw [e,strip_loc,strip_loc]
theorem TT.el {x:Oper} {st n:St} (h:TT x st n) {o:Operand} (ho:∀ d,x.dst=some d→o≠.tmp d) {ls:List DV}:n.ev o = .el ls↔st.ev o = .el ls:=by
 rcases h.ev ho with e | ⟨a,b,e⟩
 ·rw [e]
 ·rw [e,strip_el,strip_el]
theorem gres_TT {tb:Tb} {ops:Array Oper} {x y:Oper} {st n:St} (hy:isFA y=true) (h:TT x st n) (hl:∀ d,x.dst=some d→d ∉ y.looksAt ops) {q:Res}:gres tb ops y n.fs=some q↔gres tb ops y st.fs=some q:=by
 constructor
 ·intro hq
  obtain ⟨t,o,k,off,fi,r,h1,h2,rfl,h4⟩:=gres_fa hy hq
  have ho:∀ d,x.dst=some d→o≠.tmp d:=fun d e=>looksAt_op (hl d e) o (by simp [h1,Op.operands])
  refine gres_fa' hy h1 h2 ?_
  rw [fs_ev] at h4 ⊢
  simpa only [h.loc ho,h.el ho] using h4
 ·intro hq
  obtain ⟨t,o,k,off,fi,r,h1,h2,rfl,h4⟩:=gres_fa hy hq
  have ho:∀ d,x.dst=some d→o≠.tmp d:=fun d e=>looksAt_op (hl d e) o (by simp [h1,Op.operands])
  refine gres_fa' hy h1 h2 ?_
  rw [fs_ev] at h4 ⊢
  simpa only [h.loc ho,h.el ho] using h4
theorem TT.stable {x:Oper} {st n:St} (h:TT x st n) {d:Nat} (hd:x.dst≠some d) {r:AV} (hr:∀ a b,(r.strip a).strip b=r) (e:lk d st.σ=r):n.fs.σ d=r:=by
 show lk d n.σ=r
 rcases h.σ d hd with e2 | ⟨a,b,e2⟩
 ·rw [e2,e]
 ·rw [e2,e,hr]
theorem upd_self {s:FS} {dst:Option Nat} {r:AV} (h:∀ d,dst=some d→d < s.nt→s.σ d=r):s.upd dst r 0=s:=by
 cases dst with
 | none=>rfl
 | some d =>
  unfold FS.upd
  simp only
  by_cases hd:d < s.nt
  ·rw [if_pos hd]
   have:(fun x=>if x=d then r else s.σ x)=s.σ:=by
    funext x;by_cases hx:x=d
    ·subst hx;rw [if_pos rfl,h _ rfl hd]
    ·rw [if_neg hx]
   rw [this];rfl
  ·rw [if_neg hd];rfl
theorem stp_wit {tb:Tb} {x:Oper} {st:St} {K:St→Prop} (ht:isAp x.op=true) (hx:noX tb.X x.dst x.op st.ev=true) (h:stp tb x st K):∃ n,K n:=by
 unfold stp at h
 match ho:x.op,ht with
 | .store t a b,_ =>
  rw [ho] at h
  simp only at h
  split at h
  ·split at h
   ·exact ⟨_,h.2⟩
   ·exact h.elim
  ·exact h.elim
 | .call c,ht =>
  obtain ⟨callee,args,ats⟩:=c
  rw [ho] at h
  match callee,ht with
  | .builtin .append,_ =>
   simp only at h
   rw [ho] at hx
   simp only [noX] at hx
   split at h
   ·rename_i p q t t' hl _
    simp only [hl] at hx
    simp only [Bool.and_eq_true,Bool.not_eq_true'] at hx
    have hx2:=hx.2
    have hx:xsOf (st.ev p)=none:=by simpa using hx.1
    simp only [hx,hx2] at h
    split at h
    ·split at h
     ·exact ⟨_,h.2⟩
     ·exact h.elim
    ·exact h.elim
   ·exact h.elim
/-- a write and a field's address change places -/
theorem tswap {tb:Tb} {ops:Array Oper} {x y:Oper} {s:FS} {K:FS→Prop} (ht:isAp x.op=true) (hy:isFA y=true) (hap:Oper.apart ops x y=true)
  (h:tsem tb x s fun s'=>fsem tb ops y s' K):fsem tb ops y s fun s'=>tsem tb x s' K:=by
 obtain ⟨a1,a2,a3⟩:=Oper.apart_spec hap
 have a2':∀ d,y.dst=some d→x.dst≠some d:=fun d e e'=>a2 d e' e
 obtain ⟨st,rfl,hnx,h⟩:=h
 -- some successor
 have hself:=stp_put (dst:=none) (r:=.junk) (ops:=ops) ht (fun d e=>by cases e) (fun d e=>by cases e) hnx h
 obtain ⟨n,n0,hk,tt,_,_⟩:=stp_wit ht (by exact hnx) hself
 obtain ⟨q,q1,q2,q3,q4,_⟩:=hk
 have q1':=(gres_TT hy tt a1).1 q1
 obtain ⟨t,o,k,off,fi,r,h1,h2,rfl,h4⟩:=gres_fa hy q1'
 refine ⟨_,q1',q2,q3,fun h=>(by cases h),fun z hz=>?_⟩
 cases hz
 refine ⟨st.put y.dst r,fs_put0 _ _ _,(noX_congr fun z hz=>put_ev fun d e=>looksAt_op (a3 d e) z hz).trans hnx,stp_mono (fun m hm=>?_) (stp_put ht a3 a2' hnx h)⟩
 obtain ⟨m0,hk0,t1,t2,hu⟩:=hm
 obtain ⟨q',g1,g2,g3,g4,g5⟩:=hk0
 have g1':=(gres_TT hy t1 a1).1 g1
 rw [q1'] at g1'
 obtain rfl:=Option.some.inj g1'
 have:=g5 r rfl
 simp only at this
 rw [← hu r,upd_self] at this
 ·exact this
 ·intro d hd hlt
  have hst:∀ a b,(r.strip a).strip b=r:=by
   rcases h4 with ⟨k',n',_,rfl⟩ | ⟨ls,_,rfl⟩<;>intro a b<;>rfl
  exact TT.stable t2 (a2' d hd) hst (by rw [lk_put,hd];exact if_pos ⟨by rw [← put_nt st y.dst r,← t2.nt];exact hlt,rfl⟩)
/-- the same,the other way about -/
theorem tswap' {tb:Tb} {ops:Array Oper} {x y:Oper} {s:FS} {K:FS→Prop} (ht:isAp x.op=true) (hy:isFA y=true) (hap:Oper.apart ops x y=true)
  (h:fsem tb ops y s fun s'=>tsem tb x s' K):tsem tb x s fun s'=>fsem tb ops y s' K:=by
 obtain ⟨a1,a2,a3⟩:=Oper.apart_spec hap
 have a2':∀ d,y.dst=some d→x.dst≠some d:=fun d e e'=>a2 d e' e
 obtain ⟨q,q1,q2,q3,q4,h⟩:=h
 obtain ⟨t,o,k,off,fi,r,h1,h2,rfl,h4⟩:=gres_fa hy q1
 have hst:∀ a b,(r.strip a).strip b=r:=by
  rcases h4 with ⟨k',n',_,rfl⟩ | ⟨ls,_,rfl⟩<;>intro a b<;>rfl
 obtain ⟨st,hfs,hnx,h⟩:=h r rfl
 simp only at hfs
 -- the state ahead
 let st0:St:=st.put y.dst (match y.dst with | some d=>s.σ d | none=>.junk)
 have hnt:st.nt=s.nt:=congrArg FS.nt hfs
 have hrn:st.rn=s.rn:=congrArg FS.rn hfs
 have hσ:∀ z,lk z st.σ=(s.upd y.dst r 0).σ z:=fun z=>congrFun (congrArg FS.σ hfs) z
 have h0:st0.fs=s:=by
  show (st.put y.dst _).fs=s
  rw [fs_put0,hfs]
  cases hd:y.dst with
  | none=>rfl
  | some d =>
   unfold FS.upd
   simp only
   by_cases hl:d < s.nt
   ·simp only [if_pos hl]
    have:(fun x=>if x=d then s.σ d else if x=d then r else s.σ x)=s.σ:=by
     funext x;by_cases hx:x=d
     ·subst hx;simp
     ·simp [hx]
    rw [this];rfl
   ·simp only [if_neg hl];rfl
 refine ⟨st0,h0,(noX_congr fun z hz=>put_ev fun d e=>looksAt_op (a3 d e) z hz).trans hnx,stp_mono (fun m hm=>?_) (stp_put (r:=(match y.dst with | some d=>s.σ d | none=>.junk)) ht a3 a2' hnx h)⟩
 obtain ⟨m0,hk0,t1,t2,hu⟩:=hm
 refine ⟨_,(gres_TT hy t2 a1).2 (by show gres tb ops y st0.fs=_;rw [h0];exact q1),q2,q3,fun h=>(by cases h),fun z hz=>?_⟩
 cases hz
 show K (m.fs.upd y.dst r 0)
 rw [hu r,upd_self]
 ·exact hk0
 ·intro d hd hlt
  refine TT.stable t1 (a2' d hd) hst ?_
  rw [hσ,hd]
  unfold FS.upd
  simp only
  rw [if_pos (by rw [← hnt,← t1.nt];exact hlt)]
  simp
end Go.Eng
end
section
namespace Go.Eng
open Go Go.RowKit
def comm (ops:Array Oper) (x y:Oper):Bool :=
 Oper.apart ops x y && Oper.apart ops y x && ((!isT x && !isT y && !(isCall x && isCall y)) || (isAT x && isFA y) || (isFA x && isAT y))
theorem isFA_not {y:Oper} (h:isFA y=true):isT y=false:=by
 simp only [isFA,Bool.and_eq_true] at h
 unfold isT isTop
 match hop:y.op,h.2 with
 | .fieldAddr _ _ _,_=>simp
theorem isAT_top {y:Oper} (h:isAT y=true):isAp y.op=true:=by
 simp only [isAT,Bool.and_eq_true] at h
 exact h.2
theorem isAT_isT {y:Oper} (h:isAT y=true):isT y=true:=by
 simp only [isAT,Bool.and_eq_true] at h
 simp only [isT,Bool.and_eq_true]
 refine ⟨h.1,?_⟩
 have h2:=h.2
 unfold isAp at h2
 unfold isTop
 split at h2
 ·rename_i e;rw [e]
 ·rename_i c e
  rw [e]
  simp only
  split at h2
  ·rename_i e2;rw [e2]
  ·cases h2
 ·cases h2
theorem oswap {tb:Tb} {ops:Array Oper} {x y:Oper} {s:FS} {K:FS→Prop} (hc:comm ops x y=true) (h:osem tb ops x s fun s'=>osem tb ops y s' K):osem tb ops y s fun s'=>osem tb ops x s' K:=by
 simp only [comm,Bool.and_eq_true,Bool.or_eq_true,Bool.not_eq_true'] at hc
 obtain ⟨⟨a1,a2⟩,hc⟩:=hc
 unfold osem at *
 rcases hc with (⟨⟨h1,h2⟩,h3⟩ | ⟨h1,h2⟩) | ⟨h1,h2⟩
 ·simp only [h1,h2,Bool.false_eq_true,if_false] at h ⊢
  exact fswap a1 h3 h
 ·simp only [isAT_isT h1,isFA_not h2,Bool.false_eq_true,if_false,if_true] at h ⊢
  exact tswap (isAT_top h1) h2 a1 h
 ·simp only [isAT_isT h2,isFA_not h1,Bool.false_eq_true,if_false,if_true] at h ⊢
  exact tswap' (isAT_top h2) h1 a2 h
theorem osem_mono {tb:Tb} {ops:Array Oper} {x:Oper} {s:FS} {K K':FS→Prop} (hk:∀ s',K s'→K' s') (h:osem tb ops x s K):osem tb ops x s K':=by
 unfold osem at *
 split
 ·rename_i ht
  rw [if_pos ht] at h
  obtain ⟨st,h1,h0,h2⟩:=h
  exact ⟨st,h1,h0,stp_mono (fun _ h=>hk _ h) h2⟩
 ·rename_i ht
  rw [if_neg ht] at h
  obtain ⟨q,h1,h2,h3,h4,h5⟩:=h
  exact ⟨q,h1,h2,h3,h4,fun x hx=>hk _ (h5 x hx)⟩
def fopsI (tb:Tb) (ops:Array Oper):List Nat→FS→(FS→Prop)→Prop
 | [],s,K=>K s
 | i::l,s,K=>match ops[i]? with
  | some o=>osem tb ops o s fun s'=>fopsI tb ops l s' K
  | none=>fopsI tb ops l s K
theorem pull {tb:Tb} {ops:Array Oper} {i:Nat} {o:Oper} {K:FS→Prop} (ho:ops[i]? = some o) (l2:List Nat):∀ (l1:List Nat) (s:FS),(∀ j ∈ l1,∀ x,ops[j]? = some x→comm ops x o=true)→fopsI tb ops (l1++i::l2) s K→osem tb ops o s fun s'=>fopsI tb ops (l1++l2) s' K
 | [],s,_,h=>by
  simp only [List.nil_append,fopsI,ho] at h ⊢
  exact h
 | j::l1,s,hc,h=>by
  simp only [List.cons_append,fopsI] at h ⊢
  cases hj:ops[j]? with
  | none =>
   simp only [hj] at h ⊢
   exact pull ho l2 l1 s (fun k hk=>hc k (by simp [hk])) h
  | some x =>
   simp only [hj] at h ⊢
   exact oswap (hc j (by simp) x hj) (osem_mono (fun s' h'=>pull ho l2 l1 s' (fun k hk=>hc k (by simp [hk])) h') h)
def RF (E:En) (s:FS) (a:Act) (w:World):Prop:=∃ st:St,st.fs=s∧R E st a w
theorem Valid.plain {P:Program} {f:FuncId} {C:Con} (h:Valid P f C):Valid P f { C with own:=false }:=by
 intro c args vs bv B n h1 h2 h3 h4 h5 h6 h7 h8
 refine (h c args vs bv B n h1 h2 h3 h4 h5 h6 h7 h8).mono fun e w' ⟨v,r,c',he,hp,O⟩=>⟨v,r,c',he,hp,?_⟩
 exact ⟨O.w,O.g,O.rd,O.fr,O.S,O.sx,O.s1,O.tok,O.toktok,O.rk⟩
theorem fres_ok {E:En} {tb:Tb} (hE:TbOk E tb) {o:Oper} {st:St} {a:Act} {w:World} (h:R E st a w) {q:Res} (hq:fres tb o.op st.ev (fun k=>lkm k st.m)=some q) (hc:q.c) (hd:q.d=true→tb.draws=true∧st.rn + q.k≤lim)
  {next:Act→World→Prop} {Q:Exit→Act→World→Prop} (hn:∀ x a' w',q.p x→R E { (st.put o.dst x) with rn:=st.rn + q.k } a' w'→next a' w'):o.wp E.P a w next Q:=by
 have hdop:dres tb o.op st.ev (fun k=>lkm k st.m)=some q→o.wp E.P a w next Q:=by
  intro hs
  unfold dres at hs
  split at hs
  ·rename_i c r hd'
   obtain rfl:=Option.some.inj hs
   refine (dopD_ok h hE.T (hgl_of hE h) hd' hc).wp fun a' w' h'=>hn r a' w' rfl ?_
   have e:({ (st.put o.dst r) with rn:=st.rn + 0 }:St)=st.put o.dst r:=by
    have:=put_rn st o.dst r
    rw [Nat.add_zero,← this]
   rw [e];exact h'
  ·cases hs
 unfold fres at hq
 split at hq
 ·rename_i c ho
  split at hq
  ·rename_i fo hfo
   split at hq
   ·rename_i f hf
    split at hq
    ·rename_i C hC
     obtain rfl:=Option.some.inj hq
     simp only at hc hd hn
     obtain ⟨callee,args,ats⟩:=c
     simp only at hfo hc hd hn
     subst hfo
     rw [argsF_eq,argsE_eq] at hc hn
     obtain ⟨⟨g1,g2⟩,g3⟩:=ck_ok hE hC
     refine op_call h f fo args ats ho (fnOf_ok hf) g1 g2.plain g3 (fun e=>by rw [hE.dr];exact (hd e).1) hc (fun e=>(hd e).2) fun r hr a' w' h'=>hn r.er a' w' ⟨r,hr,rfl⟩ ?_
     unfold St.called at h'
     simpa using h'
    ·cases hq
   ·cases hq
  ·rename_i xo nm hfo
   split at hq
   ·rename_i t u hf
    split at hq
    ·rename_i s f hm
     split at hq
     ·rename_i C hC
      obtain rfl:=Option.some.inj hq
      simp only at hc hd hn
      obtain ⟨rfl,hc⟩:=hc
      obtain ⟨callee,args,ats⟩:=c
      simp only at hfo hc hd hn
      subst hfo
      rw [argsF_eq,argsE_eq] at hc hn
      obtain ⟨⟨g1,g2⟩,g3⟩:=ck_ok hE hC
      refine op_invoke h f t u xo _ args ats ho hf (hE.M _ (mk_mem hm)) g1 g2.plain g3 (fun e=>by rw [hE.dr];exact (hd e).1) hc (fun e=>(hd e).2) fun r hr a' w' h'=>hn r.er a' w' ⟨r,hr,rfl⟩ ?_
      unfold St.called at h'
      simpa using h'
     ·cases hq
    ·cases hq
   ·cases hq
  ·exact hdop hq
 ·exact hdop hq
theorem osem_ok {E:En} {tb:Tb} (hE:TbOk E tb) {ops:Array Oper} {i:Nat} {o:Oper} (ho:ops[i]? = some o) {s:FS} {a:Act} {w:World} (h:RF E s a w) {K:FS→Prop} (hs:osem tb ops o s K) {next:Act→World→Prop} {Q:Exit→Act→World→Prop} (hn:∀ s' a' w',RF E s' a' w'→K s'→next a' w') :
  wpOp E.P ops Q i next a w:=by
 obtain ⟨st,rfl,hr⟩:=h
 unfold wpOp
 simp only [ho]
 unfold osem at hs
 split at hs
 ·rename_i ht
  obtain ⟨st',h1,_,h2⟩:=hs
  have hg:o.guard=none:=by simp only [isT,Bool.and_eq_true,Option.isNone_iff_eq_none] at ht;exact ht.1
  rw [if_pos (by simp [Region.wanted,hg])]
  exact .inl (stp_ok hE (hr.eqv (eqv_of_fs h1.symm)) h2 fun st2 a' w' h' hk=>hn _ a' w' ⟨st2,rfl,h'⟩ hk)
 ·obtain ⟨q,h1,h2,h3,h4,h5⟩:=hs
  have key:fres tb o.op st.fs.ev st.fs.m=some q→o.wp E.P a w next Q:=fun hq=>by
   rw [fs_ev] at hq
   exact fres_ok hE hr hq h2 h4 fun x a' w' hx h'=>hn _ a' w' ⟨_,rfl,h'⟩ (by rw [fs_put];exact h5 x hx)
  have skip:q=⟨True,fun y=>y = .tup [],0,false⟩→next (a.put o.dst undef) w:=fun hq=>by
   subst hq
   exact hn _ _ _ ⟨_,rfl,hr.skipped o.dst⟩ (by rw [fs_put0];exact h5 _ rfl)
  unfold gres at h1
  split at h1
  ·rename_i hg
   rw [if_pos (by simp [Region.wanted,hg])]
   exact .inl (key h1)
  ·rename_i j want hg
   split at h1
   ·rename_i d hd
    have hy:∀ v,a.tmps[d]? = some v→yielded ops a.tmps j=(match v with | .bool b=>some b | _=>none):=fun v hv=>by
     unfold yielded
     simp only [hd,Option.bind_some,hv]
     cases v<;>rfl
    split at h1
    ·rename_i b hlk
     split at h1
     ·rename_i hlt
      have hv:a.tmps[d]? = some (.bool b):=by
       obtain ⟨c,_,_,h3,h4,_⟩:=hr
       have:=h3 d
       have hlk':lk d st.σ = .v (.bool b):=hlk
       rw [hlk'] at this
       have hlt':d < a.tmps.size:=by rw [h4];exact hlt
       rw [Array.getD_eq_getD_getElem?,Array.getElem?_eq_getElem hlt'] at this
       rw [Array.getElem?_eq_getElem hlt']
       simp only [Option.getD_some] at this
       generalize a.tmps[d]=u at this
       cases this;rfl
      have hyd:=hy _ hv
      simp only at hyd
      split at h1
      ·rename_i hb
       subst hb
       rw [if_pos (by simp [Region.wanted,hg,hyd])]
       exact .inl (key h1)
      ·rename_i hb
       rw [if_neg (by simp [Region.wanted,hg,hyd,hb])]
       exact skip (Option.some.inj h1).symm
     ·cases h1
    ·rename_i hlk
     have hyd:yielded ops a.tmps j=none:=by
      cases hv:a.tmps[d]? with
      | none =>
       unfold yielded
       simp only [hd,Option.bind_some,hv]
      | some v =>
       rw [hy v hv]
       obtain ⟨c,_,_,h3,h4,_⟩:=hr
       have:=h3 d
       have hlk':lk d st.σ = .tup []:=hlk
       rw [hlk',Array.getD_eq_getD_getElem?,hv] at this
       simp only [Option.getD_some] at this
       cases this with
       | tup ls cs hn hh=>rfl
     rw [if_neg (by simp [Region.wanted,hg,hyd])]
     exact skip (Option.some.inj h1).symm
    ·cases h1
   ·cases h1
/- which operations reach which -/
def rch (ops:Array Oper):Nat→Nat→Nat→Bool
 | 0,_,_=>false
 | n + 1,i,j=>match ops[i]? with
  | some o=>o.after.toList.any fun e=>Region.binds .any e && (e.on == j || rch ops n e.on j)
  | none=>false
def Closed (ops:Array Oper) (listed:Array Bool):Prop :=
 ∀ i o,ops[i]? = some o→listed.getD i false=true→∀ e ∈ o.after,Region.binds .any e=true→listed.getD e.on false=true
theorem rch_ok {ops:Array Oper} {listed:Array Bool} (hc:Closed ops listed):∀ (n i j:Nat),(∀ o,ops[i]? = some o→∀ e ∈ o.after,Region.binds .any e=true→listed.getD e.on false=true)→rch ops n i j=true→listed.getD j false=true
 | 0,_,_,_,h=>by simp [rch] at h
 | n + 1,i,j,hi,h=>by
  simp only [rch] at h
  split at h
  ·rename_i o ho
   rw [List.any_eq_true] at h
   obtain ⟨e,he,h⟩:=h
   simp only [Bool.and_eq_true,Bool.or_eq_true,beq_iff_eq] at h
   obtain ⟨hb,h⟩:=h
   have hl:=hi o ho e (by simpa using he) hb
   rcases h with rfl | h
   ·exact hl
   ·exact rch_ok hc n e.on j (fun o' ho'=>hc e.on o' ho' hl) h
  ·cases h
/-- the check of such a region -/
def chk (n:Nat) (ops:Array Oper):Bool :=
 (List.range ops.size).all fun i=>match ops[i]? with
  | some o=>(o.after.toList.all fun e=>!Region.binds .any e || decide (e.on < i)) && ((List.range i).all fun j=>match ops[j]? with
   | some x=>comm ops x o || rch ops n i j
   | none=>true)
  | none=>true
theorem chk_after {n:Nat} {ops:Array Oper} (h:chk n ops=true) {i:Nat} {o:Oper} (ho:ops[i]? = some o):∀ e ∈ o.after,Region.binds .any e=true→e.on < i:=by
 intro e he hb
 have hlt:i < ops.size:=(Array.getElem?_eq_some_iff.1 ho).1
 have h1:=(List.all_eq_true.1 h) i (List.mem_range.2 hlt)
 rw [ho] at h1
 simp only [Bool.and_eq_true] at h1
 have h2:=(List.all_eq_true.1 h1.1) e (by simpa using he)
 simpa [hb] using h2
theorem chk_comm {n:Nat} {ops:Array Oper} (h:chk n ops=true) {i j:Nat} {o x:Oper} (ho:ops[i]? = some o) (hx:ops[j]? = some x) (hji:j < i):comm ops x o=true∨rch ops n i j=true:=by
 have hlt:i < ops.size:=(Array.getElem?_eq_some_iff.1 ho).1
 have h1:=(List.all_eq_true.1 h) i (List.mem_range.2 hlt)
 rw [ho] at h1
 simp only [Bool.and_eq_true] at h1
 have h2:=(List.all_eq_true.1 h1.2) j (List.mem_range.2 hji)
 rw [hx] at h2
 simpa using h2
def rem (ops:Array Oper) (listed:Array Bool):List Nat:=(List.range ops.size).filter fun i=>!listed.getD i false
theorem rem_split {ops:Array Oper} {listed:Array Bool} (hsz:listed.size=ops.size) {i:Nat} (hi:i < ops.size) (hl:listed.getD i false=false) :
  ∃ l1 l2,rem ops listed=l1++i::l2∧rem ops (listed.setIfInBounds i true)=l1++l2∧∀ j ∈ l1,j < i∧listed.getD j false=false:=by
 unfold rem
 have e:List.range ops.size=List.range i++i::(List.range (ops.size - i - 1)).map (fun k=>i + 1 + k):=by
  have h1:ops.size=i + (1 + (ops.size - i - 1)):=by omega
  conv=>lhs;rw [h1]
  rw [List.range_add,List.range_add]
  simp [List.range_succ,Nat.add_assoc]
 rw [e,List.filter_append,List.filter_append,List.filter_cons,List.filter_cons]
 have h1:(!listed.getD i false)=true:=by rw [hl];rfl
 have h2:(!(listed.setIfInBounds i true).getD i false)=false:=by
  simp [show i < listed.size by omega]
 rw [if_pos h1,h2]
 refine ⟨_,_,rfl,?_,fun j hj=>?_⟩
 ·simp only [Bool.false_eq_true,if_false]
  congr 1
  ·apply List.filter_congr
   intro j hj
   rw [getD_set_ne false (by have:=List.mem_range.1 hj;omega)]
  ·apply List.filter_congr
   intro j hj
   obtain ⟨k,_,rfl⟩:=List.mem_map.1 hj
   rw [getD_set_ne false (by omega)]
 ·have:=List.mem_filter.1 hj
  exact ⟨List.mem_range.1 this.1,by simpa using this.2⟩
theorem any_ok {E:En} {tb:Tb} (hE:TbOk E tb) {ops:Array Oper} {n:Nat} (hck:chk n ops=true) {K:FS→Prop} {Q:Exit→Act→World→Prop} (hK:∀ s a w,RF E s a w→K s→Q .normal a w) :
  ∀ (fuel:Nat) (listed:Array Bool) (s:FS) (a:Act) (w:World),listed.size=ops.size→Closed ops listed→(rem ops listed).length≤fuel→RF E s a w→fopsI tb ops (rem ops listed) s K→wpAny E.P .any ops Q fuel listed a w:=by
 have hq:∀ (listed:Array Bool) (i:Nat),listed.size=ops.size→i < ops.size→listed.getD i true=listed.getD i false:=fun listed i h hi=>by
  have:i < listed.size:=by omega
  simp [this]
 have hnil:∀ (listed:Array Bool),listed.size=ops.size→rem ops listed=[]→Region.ready .any ops listed=[]:=fun listed hsz h=>by
  rw [List.eq_nil_iff_forall_not_mem]
  intro i hi
  obtain ⟨h1,o,ho,_⟩:=mem_ready.1 hi
  have hlt:i < ops.size:=(Array.getElem?_eq_some_iff.1 ho).1
  rw [hq listed i hsz hlt] at h1
  have:i ∈ rem ops listed:=List.mem_filter.2 ⟨List.mem_range.2 hlt,by rw [h1];rfl⟩
  rw [h] at this;cases this
 intro fuel
 induction fuel with
 | zero =>
  intro listed s a w hsz hcl hl hr hf
  have hn:rem ops listed=[]:=List.eq_nil_of_length_eq_zero (by omega)
  rw [hn] at hf
  exact ⟨hnil listed hsz hn,hK s a w hr hf⟩
 | succ fuel ih =>
  intro listed s a w hsz hcl hl hr hf
  refine ⟨fun h0=>?_,fun i hi=>?_⟩
  ·have hn:rem ops listed=[]:=by
    cases hrem:rem ops listed with
    | nil=>rfl
    | cons i l =>
     exfalso
     have hi:i ∈ rem ops listed:=by rw [hrem];simp
     obtain ⟨h1,h2⟩:=List.mem_filter.1 hi
     have hlt:=List.mem_range.1 h1
     have hlf:listed.getD i false=false:=by simpa using h2
     have ho:ops[i]? = some ops[i]:=Array.getElem?_eq_getElem hlt
     have:i ∈ Region.ready .any ops listed:=mem_ready.2 ⟨by rw [hq listed i hsz hlt];exact hlf,_,ho,fun e he hb=>by
      have hlt':=chk_after hck ho e he hb
      cases hle:listed.getD e.on false with
      | true=>rfl
      | false =>
       exfalso
       obtain ⟨l1,l2,e1,_,e3⟩:=rem_split hsz hlt hlf
       have hmem:e.on ∈ l1:=by
        have hm:e.on ∈ rem ops listed:=List.mem_filter.2 ⟨List.mem_range.2 (by omega),by rw [hle];rfl⟩
        have hs:(rem ops listed).Pairwise (· < ·):=List.Pairwise.filter _ List.pairwise_lt_range
        rw [hrem] at hs hm
        rcases List.mem_cons.1 hm with h | h
        ·omega
        ·have:=(List.pairwise_cons.1 hs).1 _ h;omega
       have hs:l1=[]:=by
        cases l1 with
        | nil=>rfl
        | cons k l1 =>
         rw [hrem,List.cons_append] at e1
         injection e1 with e1 _
         have:=(e3 k (by simp)).1
         omega
       rw [hs] at hmem;cases hmem⟩
     rw [h0] at this;cases this
   rw [hn] at hf
   exact hK s a w hr hf
  ·obtain ⟨h1,o,ho,h2⟩:=mem_ready.1 hi
   have hlt:i < ops.size:=(Array.getElem?_eq_some_iff.1 ho).1
   rw [hq listed i hsz hlt] at h1
   obtain ⟨l1,l2,e1,e2,e3⟩:=rem_split hsz hlt h1
   rw [e1] at hf hl
   have hp:=pull ho l2 l1 s (fun j hj x hx=>by
    obtain ⟨j1,j2⟩:=e3 j hj
    rcases chk_comm hck ho hx j1 with h | h
    ·exact h
    ·have:=rch_ok hcl n i j (fun o' ho' e he hb=>by rw [ho] at ho';obtain rfl:=Option.some.inj ho';exact h2 e he hb) h
     rw [j2] at this;cases this) hf
   refine osem_ok hE ho hr hp fun s' a' w' h' hk=>ih _ s' a' w' (by simpa using hsz) ?_ (by rw [e2];simp only [List.length_append,List.length_cons] at hl ⊢;omega) h' (by rw [e2];exact hk)
   intro k ok hok hk e he hb
   refine getD_set_true ?_
   by_cases hki:i=k
   ·subst hki
    rw [ho] at hok;obtain rfl:=Option.some.inj hok
    exact h2 e he hb
   ·rw [getD_set_ne false hki] at hk
    exact hcl k ok hok hk e he hb
/-- evaluation,in the text's order -/
def daops (tb:Tb) (ops:List Oper):List Oper→St→(St→Prop)→Prop
 | [],st,K=>K st
 | o::l,st,K=>dstpG tb ops o st fun st'=>daops tb ops l st' K
theorem daops_fopsI {tb:Tb} {ops:List Oper} {K:St→Prop} {K':FS→Prop} (hk:∀ st',K st'→K' st'.fs):∀ (l:List Oper) (k:Nat) (st:St),ops.drop k=l→daops tb ops l st K→fopsI tb ops.toArray ((List.range l.length).map (fun j=>k + j)) st.fs K'
 | [],k,st,_,h=>hk st h
 | o::l,k,st,hd,h=>by
  rw [List.length_cons,List.range_succ_eq_map,List.map_cons,List.map_map]
  have ho:ops.toArray[k + 0]? = some o:=by
   have:=congrArg (fun x=>x[0]?) hd
   simp at this
   simpa using this
  simp only [fopsI,ho]
  refine osem_mono (fun s' h'=>h') (dstpG_osem (K':=fun s'=>fopsI tb ops.toArray (List.map ((fun j=>k + j) ∘ Nat.succ) (List.range l.length)) s' K') (fun st' h'=>?_) h)
  have:=daops_fopsI hk l (k + 1) st' (by rw [← List.drop_drop,hd];rfl) h'
  have e:((fun j=>k + j) ∘ Nat.succ)=(fun j=>k + 1 + j):=by funext j;simp only [Function.comp];omega
  rw [e];exact this
theorem Aw_draw {E:En} {tb:Tb} (hE:TbOk E tb) {id:Nat} {l:List Oper} {st:St} {Q:Exit→St→Prop} (L Lm:List Nat) (n:Nat) (hck:chk n l.toArray=true) (h:daops tb l l st fun st'=>Q .normal (st'.keep L Lm)):Aw E (.region id l.toArray true) st Q:=by
 intro a w hr
 refine wp_region_any hE.mx ?_
 have hrem:rem l.toArray (Array.replicate l.toArray.size false)=List.range l.length:=by
  unfold rem
  simp only [List.size_toArray]
  apply List.filter_eq_self.2
  intro i hi
  have:=List.mem_range.1 hi
  simp [this]
 refine any_ok hE hck (K:=fun s=>∃ st':St,st'.fs=s∧Q .normal (st'.keep L Lm)) (fun s a' w' ⟨st1,h1,h2⟩ ⟨st2,h3,h4⟩=>⟨_,(h2.eqv (eqv_of_fs (h1.trans h3.symm))).keep L Lm,h4⟩) _ _ st.fs a _ (by simp) (fun i o ho hl=>?_) (by rw [hrem];simp) ⟨st,rfl,hr.drew⟩ ?_
 ·exfalso
  have:i < l.toArray.size:=(Array.getElem?_eq_some_iff.1 ho).1
  simp only [List.size_toArray] at this
  simp [this] at hl
 ·rw [hrem]
  have:=daops_fopsI (tb:=tb) (ops:=l) (K:=fun st'=>Q .normal (st'.keep L Lm)) (K':=fun s=>∃ st':St,st'.fs=s∧Q .normal (st'.keep L Lm)) (fun st' h'=>⟨st',rfl,h'⟩) l 0 st rfl h
  simpa using this
end Go.Eng
end
section
namespace Go.Eng
open Go Go.RowKit
/-! evaluation: a state is opened where it stands in full -/
section
variable (tb:Tb) (ops l:List Oper) (o:Oper) (nt:Nat) (σ:List (Nat × AV)) (m:List (Nat × List AV)) (rn:Nat) (st:St) (K:St→Prop) (dst:Option Nat) (C:Con)
theorem aops_nil:aops tb ops [] st K=K st:=rfl
theorem aops_mk:aops tb ops (o::l) ⟨nt,σ,m,rn⟩ K=stpG tb ops o ⟨nt,σ,m,rn⟩ fun st'=>aops tb ops l st' K:=rfl
theorem daops_nil:daops tb ops [] st K=K st:=rfl
theorem daops_mk:daops tb ops (o::l) ⟨nt,σ,m,rn⟩ K=dstpG tb ops o ⟨nt,σ,m,rn⟩ fun st'=>daops tb ops l st' K:=rfl
def called (st:St) (dst:Option Nat) (C:Con) (r:AV):St :=
 match C.own,dst with
 | true,some d=>{ ((st.strip d).put dst (r.adopt d)) with rn:=st.rn + C.cost }
 | _,_=>{ (st.put dst r.er) with rn:=st.rn + C.cost }
theorem called_v (x:Value):St.called st dst C (.v x)=called st dst C (.v x):=rfl
theorem called_nl:St.called st dst C .nl=called st dst C .nl:=rfl
theorem called_rd:St.called st dst C .rd=called st dst C .rd:=rfl
theorem called_junk:St.called st dst C .junk=called st dst C .junk:=rfl
theorem called_sl (t:Option (Nat × Nat × TypeId)) (els:List (List DV)):St.called st dst C (.sl t els)=called st dst C (.sl t els):=rfl
theorem called_agg (ls:List AV):St.called st dst C (.agg ls)=called st dst C (.agg ls):=rfl
theorem called_tup (ls:List AV):St.called st dst C (.tup ls)=called st dst C (.tup ls):=rfl
theorem called_dv (x:DV):St.called st dst C (.dv x)=called st dst C (.dv x):=rfl
theorem called_el (ls:List DV):St.called st dst C (.el ls)=called st dst C (.el ls):=rfl
end
theorem fnOf_func (f:FuncId):fnOf (.v (.func (.func f) #[] #[]))=some f:=rfl
attribute [go_sem] frzOk ptrN dcl allOne mapV ifcV asrt isEmpB AV.frz AV.frzAll frzσ frzm St.frz zeroD ifcA valsA glk ifcOf callA mk frzC capsL Value.oneCell' mmk exk callM callR rhoA rhoS rhoC shf dN lentM nilS memN isNlX nlk nlkR hasR backM remF stripFσ stripFm AV.stripF AV.stripFAll AV.mvn AV.mvnAll AV.nt AV.ntAll ntm ntσ St.calledM xsOf srcL noX fnOf_func aops_nil aops_mk daops_nil daops_mk called called_v called_nl called_rd called_junk called_sl called_agg called_tup called_el called_dv
 stpG stp dstpG dstp dopD bsl dop dop.partsE bnd ld ldL elt fld isTop argsE ownOf St.ev St.know AV.ofVal leafOf st0 enumA St.put St.keep kps kpm lk lkm binC binR pickA gk dk tyk AV.leaves AV.els fillL setL fldSizes
 AV.er AV.erAll AV.adopt AV.adoptAll adoptTok AV.strip AV.stripAll stripTok stripσ stripm AV.stripL AV.stripLAll stripLσ stripLm St.strip St.strip2 St.stripL newbox repm DV.toAV DV.ofAV nilV DV.ofAll isbT eq2T issT ifcT nilV nilR bytesL allLeaf AV.isLeaf retA resL res1 oneR AV.xp AV.xpAll chunks DFn.con
attribute [go_sem] Int.toNat_natCast List.size_toArray beq_self_eq_true true_and and_true ne_eq not_false_eq_true Bool.and_self false_and and_false ite_self Nat.sub_zero Nat.mul_one Nat.zero_mul Nat.add_one_ne_zero Nat.zero_add Nat.add_zero List.getElem?_cons_zero List.getElem?_cons_succ List.getElem?_nil List.replicate_succ List.replicate_zero List.set_cons_zero List.set_cons_succ List.set_nil Nat.le_refl List.take_nil List.drop_zero List.head?_cons List.head?_nil List.map_cons List.map_nil List.take_succ_cons List.take_zero List.cons_append List.nil_append List.append_nil List.drop_succ_cons List.drop_nil List.length_cons List.length_nil true_implies false_implies Bool.not_true Bool.not_false Bool.true_eq_false Bool.false_eq_true cond_true cond_false implies_true forall_eq forall_eq' exists_eq_left' exists_eq' exists_eq exists_eq_left Option.some.injEq Prod.mk.injEq List.cons.injEq AV.v.injEq AV.agg.injEq AV.sl.injEq DV.v.injEq Value.int.injEq Value.bool.injEq Value.string.injEq
attribute [go_sem ↓ high] gs_true gs_false
attribute [go_sem ↓ low] gs_any
/-! code: what is behind stands as a variable -/
section
variable {E:En} {tb:Tb} {st:St} {Q:Exit→St→Prop}
/-- x,then y -/
theorem Aw_sq {x y:Code} (h:∀ B:Exit→St→Prop,(∀ st',Aw E y st' Q→B .normal st')→(∀ st',Q .ret st'→B .ret st')→(∀ k st',Q (.exit k) st'→B (.exit k) st')→Aw E x st B):Aw E (.seq x y) st Q :=
 Aw_seq (h _ (fun _ h=>h) (fun _ h=>h) (fun _ _ h=>h))
/-- a region,then y -/
theorem Aw_st (hE:TbOk E tb) {id:Nat} {l:List Oper} {y:Code} (L Lm:List Nat) (h:∀ K:St→Prop,(∀ st',Aw E y st' Q→K st')→aops tb l l st fun st'=>K (st'.keep L Lm)):Aw E (.seq (.region id l.toArray false) y) st Q :=
 Aw_seq (Aw_text hE L Lm (h _ fun _ h=>h))
theorem Aw_sd (hE:TbOk E tb) {id:Nat} {l:List Oper} {y:Code} (L Lm:List Nat) (n:Nat) (hck:chk n l.toArray=true) (h:∀ K:St→Prop,(∀ st',Aw E y st' Q→K st')→daops tb l l st fun st'=>K (st'.keep L Lm)):Aw E (.seq (.region id l.toArray true) y) st Q :=
 Aw_seq (Aw_draw hE L Lm n hck (h _ fun _ h=>h))
/-- a region -/
theorem Aw_tx (hE:TbOk E tb) {id:Nat} {l:List Oper} (L Lm:List Nat) (h:∀ K:St→Prop,(∀ st',Q .normal st'→K st')→aops tb l l st fun st'=>K (st'.keep L Lm)):Aw E (.region id l.toArray false) st Q :=
 Aw_text hE L Lm (h _ fun _ h=>h)
theorem Aw_td (hE:TbOk E tb) {id:Nat} {l:List Oper} (L Lm:List Nat) (n:Nat) (hck:chk n l.toArray=true) (h:∀ K:St→Prop,(∀ st',Q .normal st'→K st')→daops tb l l st fun st'=>K (st'.keep L Lm)):Aw E (.region id l.toArray true) st Q :=
 Aw_draw hE L Lm n hck (h _ fun _ h=>h)
/-- a block -/
theorem Aw_bk {id:Nat} {c:Code} (h:∀ B:Exit→St→Prop,(∀ st',Q .normal st'→B .normal st')→(∀ st',Q .normal st'→B (.exit id) st')→(∀ st',Q .ret st'→B .ret st')→(∀ k st',k≠id→Q (.exit k) st'→B (.exit k) st')→Aw E c st B):Aw E (.block id c) st Q :=
 Aw_block (h _ (fun _ h=>h) (fun st' h=>by simp only [blockA,if_true];exact h) (fun _ h=>h) (fun k st' hk h=>by simp only [blockA,if_neg hk];exact h))
/-- a loop;F i holds at its head -/
theorem Aw_lp {c:Code} {ι:Type} (F:ι→St) (p:ι→Prop) (μ:ι→Nat) (i0:ι) (h0:Le st (F i0)) (hp:p i0)
  (hs:∀ i,p i→∀ B:Exit→St→Prop,(∀ j st',p j→μ j < μ i→Le st' (F j)→B .normal st')→(∀ st',Q .ret st'→B .ret st')→(∀ k st',Q (.exit k) st'→B (.exit k) st')→Aw E c (F i) B):Aw E (.loop c) st Q :=
 Aw_loop F p μ i0 h0 hp fun i hi=>hs i hi _ (fun j _ h1 h2 h3=>⟨j,h1,h2,h3⟩) (fun _ h=>h) (fun _ _ h=>h)
/-- what is left out is not known -/
theorem Le_of {nt rn : Nat} {σ σ' : List (Nat × AV)} {m m' : List (Nat × List AV)} (h : ∀ x, lk x σ' = lk x σ ∨ lk x σ' = .junk) (hm : ∀ k ls, lkm k m' = some ls → lkm k m = some ls) : Le ⟨nt, σ, m, rn⟩ ⟨nt, σ', m', rn⟩ := by
  intro E a w ⟨c, h1, G, h3, h4, h5⟩
  refine ⟨c, h1, ?_, fun x => ?_, h4, h5⟩
  · exact { bl := G.bl, cg := G.cg, fr := G.fr, lx := G.lx, sx := G.sx, s1 := G.s1, sS := G.sS, sg := G.sg, box := fun d ls hl => G.box d ls (hm d ls hl), boxinj := fun d d' l l' e1 e2 => G.boxinj d d' l l' (hm d l e1) (hm d' l' e2),
            tok := G.tok, toktok := G.toktok, tokbox := fun d j b k ls e1 e2 => G.tokbox d j b k ls e1 (hm k ls e2), rk := G.rk }
  · rcases h x with e | e
    · have := h3 x; simp only at this ⊢; rw [e]; exact this
    · simp only; rw [e]; exact .junk _
end
/-- f is proved at C -/
def Fine (P:Program) (f:FuncId) (C:Con):Prop:=Callable P f∧Valid P f C
/-- what a callee asks of the world holds behind growth,where I held -/
def Inh (I J:World→Prop) (dr:Bool):Prop:=∀ w w' g,I w→w.grownBy w' (if dr then some g else none)→J w'
theorem inh_true {I:World→Prop} {dr:Bool}:Inh I (fun _=>True) dr:=fun _ _ _ _ _=>trivial
def GsOk (P:Program) (I:World→Prop) (dr:Bool) (G:List (FuncId × Con)):Prop:=∀ p ∈ G,Fine P p.1 p.2∧Inh I p.2.inv dr
theorem gs_nil {P:Program} {I:World→Prop} {dr:Bool}:GsOk P I dr []:=fun p hp=>by cases hp
theorem gs_cons {P:Program} {I:World→Prop} {dr:Bool} {f:FuncId} {C:Con} {G:List (FuncId × Con)} (h:Fine P f C) (k:GsOk P I dr G) (hi:Inh I C.inv dr:=by exact inh_true):GsOk P I dr ((f,C)::G):=fun p hp=>by
 rcases List.mem_cons.1 hp with rfl | hp
 ·exact ⟨h,hi⟩
 ·exact k p hp
def DsOk (P:Program) (I:World→Prop) (dr:Bool) (D:List (FuncId × DFn)):Prop:=∀ p ∈ D,Fine P p.1 p.2.con∧Inh I p.2.inv dr
theorem ds_nil {P:Program} {I:World→Prop} {dr:Bool}:DsOk P I dr []:=fun p hp=>by cases hp
theorem ds_cons {P:Program} {I:World→Prop} {dr:Bool} {f:FuncId} {d:DFn} {D:List (FuncId × DFn)} (h:Fine P f d.con) (k:DsOk P I dr D) (hi:Inh I d.inv dr:=by exact inh_true):DsOk P I dr ((f,d)::D):=fun p hp=>by
 rcases List.mem_cons.1 hp with rfl | hp
 ·exact ⟨h,hi⟩
 ·exact k p hp
/-- f is proved at C,a contract over boxes -/
def FineM (P:Program) (f:FuncId) (C:ConM):Prop:=Callable P f∧ValidM P f C
def MMsOk (P:Program) (I:World→Prop) (dr:Bool) (MM:List (FuncId × (ConM × List (Nat × Nat) × List (Nat × Nat)))):Prop:=∀ p ∈ MM,FineM P p.1 p.2.1∧okN p.2.2.1 p.2.2.2∧Inh I p.2.1.inv dr
theorem mm_nil {P:Program} {I:World→Prop} {dr:Bool}:MMsOk P I dr []:=fun p hp=>by cases hp
theorem mm_cons {P:Program} {I:World→Prop} {dr:Bool} {f:FuncId} {C:ConM} {ρ φ:List (Nat × Nat)} {MM:List (FuncId × (ConM × List (Nat × Nat) × List (Nat × Nat)))} (h:FineM P f C) (hn:okN ρ φ) (k:MMsOk P I dr MM) (hi:Inh I C.inv dr:=by exact inh_true):MMsOk P I dr ((f,(C,ρ,φ))::MM):=fun p hp=>by
 rcases List.mem_cons.1 hp with rfl | hp
 ·exact ⟨h,hn,hi⟩
 ·exact k p hp
def ExsOk (P:Program) (EX:List (FuncId × ExG)):Prop:=∀ p ∈ EX,ExtOk P p.1 p.2
theorem ex_nil {P:Program}:ExsOk P []:=fun p hp=>by cases hp
/-- package-level variables that hold known values wherever I held -/
def GlOk (I:World→Prop) (dr:Bool) (gl:List (Nat × Value)):Prop:=∀ p ∈ gl,p.2.oneCell'=true∧∀ w w' g,I w→w.grownBy w' (if dr then some g else none)→w'.cell? ⟨p.1,0,none⟩=some p.2
theorem gl_nil {I:World→Prop} {dr:Bool}:GlOk I dr []:=fun _ h=>by cases h
section
variable {P:Program} {f:FuncId} {fn:Func} {body:Code} {T:List (TypeId × TyI)} {G:List (FuncId × Con)} {D:List (FuncId × DFn)} {nt:Nat} {rs:List ResultVar}
theorem fine_ofX {C:Con} (gl:List (Nat × Value)) (hgl:GlOk C.inv C.draws gl) (M:List ((TypeId × String) × FuncId)) (hM:MsOk P M) (MM:List (FuncId × (ConM × List (Nat × Nat) × List (Nat × Nat)))) (hMM:MMsOk P C.inv C.draws MM) (X:List Nat) (EX:List (FuncId × ExG)) (hEX:ExsOk P EX) (hf:P.funcs[f]? = some fn) (hb:fn.body=some body) (hn:fn.ntmps=nt) (hr:fn.results.toList=rs) (hnm:(fn.name == "runtime.NumGoroutine")=false)
  (hm:P.follows .mixedOrders=true) (hT:TysOk P T) (hG:GsOk P C.inv C.draws G) (hD:DsOk P C.inv C.draws D)
  (h:∀ args,C.pre args→args.length≤nt∧∀ n,(C.draws=true→n + C.cost≤lim)→∀ E:En,TbOk E { T:=T,G:=G,D:=D,draws:=C.draws,gl:=gl,M:=M,MM:=MM,X:=X,EX:=EX }→∀ Q:Exit→St→Prop,(∀ st,retA T rs C args n .ret st→Q .ret st)→Aw E body (st0 nt args n) Q):Fine P f C :=
 ⟨⟨fn,hf,by rw [hb];rfl,hnm⟩,valid_of hf hb hT fun args ha=>by
  obtain ⟨h1,h2⟩:=h args ha
  subst hn;subst hr
  exact ⟨h1,fun n hl E hE hD' hL hi=>h2 n hl E ⟨by rw [hE];exact hT,fun p hp=>by rw [hE];exact (hG p hp).1,fun p hp=>by rw [hE];exact (hD p hp).1,fun p hp w hw=>(hG p hp).2 _ w E.g hi (by rw [← hD'];exact hw.by hL),fun p hp w hw=>(hD p hp).2 _ w E.g hi (by rw [← hD'];exact hw.by hL),hD',fun p hp=>⟨(hgl p hp).1,fun w hw=>(hgl p hp).2 _ w E.g hi (by rw [← hD'];exact hw.by hL)⟩,fun _=>hL,by rw [hE];exact hm,by rw [hE];exact hM,
   fun p hp=>⟨by rw [hE];exact (hMM p hp).1,(hMM p hp).2.1,fun w hw=>(hMM p hp).2.2 _ w E.g hi (by rw [← hD'];exact hw.by hL)⟩,by rw [hE];exact hEX,fun _ h=>(by cases h)⟩ _ (fun _ h=>h)⟩⟩
theorem fine_ofG {C:Con} (gl:List (Nat × Value)) (hgl:GlOk C.inv C.draws gl) (M:List ((TypeId × String) × FuncId)) (hM:MsOk P M) (hf:P.funcs[f]? = some fn) (hb:fn.body=some body) (hn:fn.ntmps=nt) (hr:fn.results.toList=rs) (hnm:(fn.name == "runtime.NumGoroutine")=false)
  (hm:P.follows .mixedOrders=true) (hT:TysOk P T) (hG:GsOk P C.inv C.draws G) (hD:DsOk P C.inv C.draws D)
  (h:∀ args,C.pre args→args.length≤nt∧∀ n,(C.draws=true→n + C.cost≤lim)→∀ E:En,TbOk E { T:=T,G:=G,D:=D,draws:=C.draws,gl:=gl,M:=M }→∀ Q:Exit→St→Prop,(∀ st,retA T rs C args n .ret st→Q .ret st)→Aw E body (st0 nt args n) Q):Fine P f C :=
 fine_ofX gl hgl M hM [] mm_nil [] [] ex_nil hf hb hn hr hnm hm hT hG hD h
theorem fine_of {C:Con} (hf:P.funcs[f]? = some fn) (hb:fn.body=some body) (hn:fn.ntmps=nt) (hr:fn.results.toList=rs) (hnm:(fn.name == "runtime.NumGoroutine")=false)
  (hm:P.follows .mixedOrders=true) (hT:TysOk P T) (hG:GsOk P C.inv C.draws G) (hD:DsOk P C.inv C.draws D)
  (h:∀ args,C.pre args→args.length≤nt∧∀ n,(C.draws=true→n + C.cost≤lim)→∀ E:En,TbOk E { T:=T,G:=G,D:=D,draws:=C.draws }→∀ Q:Exit→St→Prop,(∀ st,retA T rs C args n .ret st→Q .ret st)→Aw E body (st0 nt args n) Q):Fine P f C :=
 fine_ofX [] gl_nil [] ms_nil [] mm_nil [] [] ex_nil hf hb hn hr hnm hm hT hG hD h
/-- a function that is lent boxes -/
theorem fineM_of {C:ConM} (M:List ((TypeId × String) × FuncId)) (hM:MsOk P M) (MM:List (FuncId × (ConM × List (Nat × Nat) × List (Nat × Nat)))) (hMM:MMsOk P (fun _=>True) false MM) (X:List Nat) (EX:List (FuncId × ExG)) (hEX:ExsOk P EX) (hf:P.funcs[f]? = some fn) (hb:fn.body=some body) (hn:fn.ntmps=nt) (hr:fn.results.toList=rs) (hnm:(fn.name == "runtime.NumGoroutine")=false)
  (hm:P.follows .mixedOrders=true) (hT:TysOk P T) (hG:GsOk P (fun _=>True) false G) (hD:DsOk P (fun _=>True) false D)
  (h:∀ args m1,C.pre args m1→args.length≤nt∧∀ E:En,TbOk E { T:=T,G:=G,D:=D,draws:=false,lent:=true,M:=M,MM:=MM,X:=X,EX:=EX }→∀ Q:Exit→St→Prop,(∀ st,retM T rs C args m1 .ret st→Q .ret st)→Aw E body (stM nt args m1) Q):FineM P f C :=
 ⟨⟨fn,hf,by rw [hb];rfl,hnm⟩,valid_ofM hf hb hT fun args m1 ha=>by
  obtain ⟨h1,h2⟩:=h args m1 ha
  subst hn;subst hr
  have hr:∀ w:World,w.grownBy w (if false=true then some 0 else none):=fun w=>⟨rfl,rfl,rfl,Nat.le_refl _,fun _ _ _=>rfl⟩
  exact ⟨h1,fun E hE hD' hi _=>h2 E ⟨by rw [hE];exact hT,fun p hp=>by rw [hE];exact (hG p hp).1,fun p hp=>by rw [hE];exact (hD p hp).1,fun p hp w _=>(hG p hp).2 w w 0 trivial (hr w),fun p hp w _=>(hD p hp).2 w w 0 trivial (hr w),hD',fun _ h=>(by cases h),fun h=>(by cases h),by rw [hE];exact hm,by rw [hE];exact hM,
   fun p hp=>⟨by rw [hE];exact (hMM p hp).1,(hMM p hp).2.1,fun w _=>(hMM p hp).2.2 w w 0 trivial (hr w)⟩,by rw [hE];exact hEX,fun _ h=>(by cases h)⟩ _ (fun _ h=>h)⟩⟩
/-- the same,where the lent boxes are known by their names: what is new may be settled -/
theorem fineM_ofL {C:ConM} (M:List ((TypeId × String) × FuncId)) (hM:MsOk P M) (MM:List (FuncId × (ConM × List (Nat × Nat) × List (Nat × Nat)))) (hMM:MMsOk P (fun _=>True) false MM) (X:List Nat) (EX:List (FuncId × ExG)) (hEX:ExsOk P EX) (hf:P.funcs[f]? = some fn) (hb:fn.body=some body) (hn:fn.ntmps=nt) (hr:fn.results.toList=rs) (hnm:(fn.name == "runtime.NumGoroutine")=false)
  (hm:P.follows .mixedOrders=true) (hT:TysOk P T) (hG:GsOk P (fun _=>True) false G) (hD:DsOk P (fun _=>True) false D)
  (h:∀ args m1,C.pre args m1→args.length≤nt∧∀ E:En,TbOk E { T:=T,G:=G,D:=D,draws:=false,lent:=true,M:=M,MM:=MM,X:=X,EX:=EX,ln:=some (m1.map (·.1)) }→∀ Q:Exit→St→Prop,(∀ st,retM T rs C args m1 .ret st→Q .ret st)→Aw E body (stM nt args m1) Q):FineM P f C :=
 ⟨⟨fn,hf,by rw [hb];rfl,hnm⟩,valid_ofM hf hb hT fun args m1 ha=>by
  obtain ⟨h1,h2⟩:=h args m1 ha
  subst hn;subst hr
  have hr:∀ w:World,w.grownBy w (if false=true then some 0 else none):=fun w=>⟨rfl,rfl,rfl,Nat.le_refl _,fun _ _ _=>rfl⟩
  exact ⟨h1,fun E hE hD' hi hln=>h2 E ⟨by rw [hE];exact hT,fun p hp=>by rw [hE];exact (hG p hp).1,fun p hp=>by rw [hE];exact (hD p hp).1,fun p hp w _=>(hG p hp).2 w w 0 trivial (hr w),fun p hp w _=>(hD p hp).2 w w 0 trivial (hr w),hD',fun _ h=>(by cases h),fun h=>(by cases h),by rw [hE];exact hm,by rw [hE];exact hM,
   fun p hp=>⟨by rw [hE];exact (hMM p hp).1,(hMM p hp).2.1,fun w _=>(hMM p hp).2.2 w w 0 trivial (hr w)⟩,by rw [hE];exact hEX,fun l h=>by rw [← Option.some.inj h];exact hln⟩ _ (fun _ h=>h)⟩⟩
/-- at the end of a function that is told by a function -/
def retD (T:List (TypeId × TyI)) (rs:List ResultVar) (own:Bool) (r:AV) (st:St):Prop :=
 match resL T st rs with
 | some (c,l)=>c∧(match own with | true=>((oneR l).xp []).1 | false=>(oneR l).er)=r
 | none=>False
theorem fine_detX {d:DFn} (gl:List (Nat × Value)) (hgl:GlOk d.inv false gl) (M:List ((TypeId × String) × FuncId)) (hM:MsOk P M) (MM:List (FuncId × (ConM × List (Nat × Nat) × List (Nat × Nat)))) (hMM:MMsOk P d.inv false MM) (X:List Nat) (EX:List (FuncId × ExG)) (hEX:ExsOk P EX) (hf:P.funcs[f]? = some fn) (hb:fn.body=some body) (hn:fn.ntmps=nt) (hr:fn.results.toList=rs) (hnm:(fn.name == "runtime.NumGoroutine")=false)
  (hm:P.follows .mixedOrders=true) (hT:TysOk P T) (hG:GsOk P d.inv false G) (hD:DsOk P d.inv false D)
  (h:∀ args c r,d.g args=some (c,r)→c→args.length≤nt∧∀ n,∀ E:En,TbOk E { T:=T,G:=G,D:=D,draws:=false,gl:=gl,M:=M,MM:=MM,X:=X,EX:=EX }→∀ Q:Exit→St→Prop,(∀ st,retD T rs d.own r st→Q .ret st)→Aw E body (st0 nt args n) Q):Fine P f d.con :=
 fine_ofX gl hgl M hM MM hMM X EX hEX hf hb hn hr hnm hm hT hG hD fun args ⟨c,r,hg,hc⟩=>by
  obtain ⟨h1,h2⟩:=h args c r hg hc
  refine ⟨h1,fun n hl E hE Q hQ=>h2 n E hE Q fun st hst=>hQ st ?_⟩
  unfold retD at hst
  cases hl':resL T st rs with
  | none=>rw [hl'] at hst;exact hst.elim
  | some p =>
   obtain ⟨c',l⟩:=p
   rw [hl'] at hst
   simp only at hst
   simp only [retA,hl']
   refine ⟨hst.1,fun e=>(by cases e),c,?_⟩
   rw [hg]
   have e2:=hst.2
   cases ho:d.own<;>rw [ho] at e2<;>simp only [DFn.con,ho,if_true,Bool.false_eq_true,if_false] at e2 ⊢<;>rw [e2]
theorem fine_detG {d:DFn} (gl:List (Nat × Value)) (hgl:GlOk d.inv false gl) (M:List ((TypeId × String) × FuncId)) (hM:MsOk P M) (hf:P.funcs[f]? = some fn) (hb:fn.body=some body) (hn:fn.ntmps=nt) (hr:fn.results.toList=rs) (hnm:(fn.name == "runtime.NumGoroutine")=false)
  (hm:P.follows .mixedOrders=true) (hT:TysOk P T) (hG:GsOk P d.inv false G) (hD:DsOk P d.inv false D)
  (h:∀ args c r,d.g args=some (c,r)→c→args.length≤nt∧∀ n,∀ E:En,TbOk E { T:=T,G:=G,D:=D,draws:=false,gl:=gl,M:=M }→∀ Q:Exit→St→Prop,(∀ st,retD T rs d.own r st→Q .ret st)→Aw E body (st0 nt args n) Q):Fine P f d.con :=
 fine_detX gl hgl M hM [] mm_nil [] [] ex_nil hf hb hn hr hnm hm hT hG hD h
theorem fine_det {d:DFn} (hf:P.funcs[f]? = some fn) (hb:fn.body=some body) (hn:fn.ntmps=nt) (hr:fn.results.toList=rs) (hnm:(fn.name == "runtime.NumGoroutine")=false)
  (hm:P.follows .mixedOrders=true) (hT:TysOk P T) (hG:GsOk P d.inv false G) (hD:DsOk P d.inv false D)
  (h:∀ args c r,d.g args=some (c,r)→c→args.length≤nt∧∀ n,∀ E:En,TbOk E { T:=T,G:=G,D:=D,draws:=false }→∀ Q:Exit→St→Prop,(∀ st,retD T rs d.own r st→Q .ret st)→Aw E body (st0 nt args n) Q):Fine P f d.con :=
 fine_detX [] gl_nil [] ms_nil [] mm_nil [] [] ex_nil hf hb hn hr hnm hm hT hG hD h
end
attribute [go_sem] retD retM stM
end Go.Eng
end
section
namespace Go.Eng
open Go Go.RowKit
/-- a function of the library's: of one-cell values,by its contract -/
theorem lib_fine {P:Program} {f:FuncId} {d:DFn} (hc:Callable P f)
  (h:∀ args c r,d.g args=some (c,r)→c→∃ (vs:List Value) (v:Value),args=vs.map AV.v∧(∀ c0:Gh,Rd c0 r v)∧∀ w,d.inv w→Calls P f vs.toArray w fun e w'=>e = .returned v∧w.grownBy w' none):Fine P f d.con:=by
 refine ⟨hc,?_⟩
 intro c args vs0 bv B n hsz hrd her hpre hinv hsx hs1 hdr
 obtain ⟨c1,r,hg,hc1⟩:=hpre
 obtain ⟨vs,v,rfl,hr,hcall⟩:=h args c1 r hg hc1
 have e:vs0=vs.toArray:=by
  apply Array.ext
  ·simpa using hsz
  ·intro i h1 h2
   have h3:i < vs.length:=by simpa using h2
   have:=hrd i (.v vs[i]) (by simp [h3])
   have e1:vs0.getD i undef=vs0[i]:=by simp [Array.getD_eq_getD_getElem?,h1]
   rw [e1] at this
   generalize vs0[i]=u at this
   cases this
   simp
 subst e
 refine (hcall c.w hinv).mono fun e w' ⟨he,hgr⟩=>⟨v,r,{ w:=w',S:=fun _ _=>False,β:=fun _=>0,tv:=fun _ _=>.slice none 0 0,te:=fun _ _=>0,g:=c.g },he,⟨c1,hg⟩,?_⟩
 exact { w:=rfl,g:=rfl,rd:=hr _,fr:=hgr,S:=fun _ _ h=>h.elim,sx:=fun _ _ h=>h.elim,s1:=fun _ _ _ h=>h.elim,tok:=fun _ _=>.inl rfl,toktok:=fun _ _ _ _ b hb=>by simp [Value.ownBlock] at hb,rk:=fun hd=>by cases hd }
/-- a function proved by a walk of its own,whose result reads in memory that it made -/
theorem raw_fine {P : Program} {f : FuncId} {C : Con} (hc : Callable P f) (hd : C.draws = false)
    (h : ∀ (c : Gh) (args : List AV) (vs : Array Value), vs.size = args.length → (∀ j x, args[j]? = some x → Rd c x (vs.getD j undef)) → (∀ b o, c.S b o → Lk c.w b o) → C.pre args → C.inv c.w →
      Calls P f vs c.w fun e w' => ∃ (v : Value) (r : AV) (N : Nat → Nat → Prop), e = .returned v ∧ C.post args r ∧ c.w.grownBy w' none ∧ (∀ b o, N b o → c.w.heap.size ≤ b ∧ ∃ x, w'.cell? ⟨b, o, none⟩ = some x ∧ x.oneCell' = true) ∧
        Rd { w := w', S := fun b o => c.S b o ∨ N b o, β := fun _ => 0, tv := fun _ _ => .slice none 0 0, te := fun _ _ => 0, g := c.g } r v) : Fine P f C := by
  refine ⟨hc, ?_⟩
  intro c args vs bv B n hsz hrd her hpre hinv hsx hs1 hdr
  refine (h c args vs hsz hrd hsx hpre hinv).mono ?_
  rintro e w' ⟨v, r, N, rfl, hp, hg, hN, hr⟩
  have hkeep : Keeps c.w c.S w' c.S := keeps_of_lt (fun _ _ h => h) fun b o _ hb => hg.block b hb (by simp)
  refine ⟨v, r, { w := w', S := fun b o => c.S b o ∨ N b o, β := fun _ => 0, tv := fun _ _ => .slice none 0 0, te := fun _ _ => 0, g := c.g }, rfl, hp, ?_⟩
  exact { w := rfl, g := rfl, rd := hr, fr := by rw [hd]; exact hg,
          S := fun b o h => by
            rcases h with h | h
            · exact .inr h
            · exact .inl (hN b o h).1
          sx := fun b o h => by
            rcases h with h | h
            · exact hkeep.lk h (hsx b o h)
            · obtain ⟨x, hx, _⟩ := (hN b o h).2; exact .inl ⟨x, hx⟩
          s1 := fun b o v h hv => by
            rcases h with h | h
            · rcases hsx b o h with ⟨u, hu⟩ | ⟨rfl, es, ck, hb⟩
              · have h1 := (hkeep.1 b o u h hu).2
                have h2 : w'.cell? ⟨b, o, none⟩ = some v := hv
                rw [h1] at h2; obtain rfl := Option.some.inj h2
                exact hs1 b o u h hu
              · have h1 := (hkeep.2 b es ck h hb).2
                have h2 : w'.cell? ⟨b, 0, none⟩ = some v := hv
                simp [World.cell?, h1] at h2
            · obtain ⟨x, hx, h1⟩ := (hN b o h).2
              have h2 : w'.cell? ⟨b, o, none⟩ = some v := hv
              rw [hx] at h2; obtain rfl := Option.some.inj h2
              exact h1
          tok := fun _ _ => .inl rfl, toktok := fun _ _ _ _ b hb => by simp [Value.ownBlock] at hb, rk := fun hd' => by rw [hd] at hd'; cases hd' }

theorem grownBy_refl (w:World) (r:Option Nat):w.grownBy w r:=⟨rfl,rfl,rfl,Nat.le_refl _,fun _ _ _=>rfl⟩
theorem grownBy_grow (w:World) (n:Nat) (os:Array Obj):w.grownBy (Go.Sort.grow (w.drewN n) os) none :=
 ⟨rfl,rfl,rfl,by simp [Go.Sort.grow,World.drewN],fun i hi _=>by simp [Go.Sort.grow,World.drewN,Array.getElem?_append_left hi]⟩
theorem var_grown {P:Program} {w w':World} {name:String} {cs:Array Value} (h:w.grownBy w' none) (hv:w.var? P name=some cs):w'.var? P name=some cs:=by
 unfold World.var? at hv ⊢
 obtain ⟨g,hg,hv⟩:=Option.bind_eq_some_iff.1 hv
 rw [hg]
 simp only [Option.bind_some]
 have hl:g < w.heap.size:=by
  rcases Nat.lt_or_ge g w.heap.size with h | h
  ·exact h
  ·rw [Array.getElem?_eq_none h] at hv;cases hv
 rw [h.block g hl (by simp)]
 exact hv
theorem cell_grown {w w':World} {a:Addr} {v:Value} (h:w.grownBy w' none) (hv:w.cell? a=some v):w'.cell? a=some v :=
 (World.cell?_of_block (h.block a.block (World.block_lt_of_cell? w a hv) (by simp))).trans hv
end Go.Eng
end
