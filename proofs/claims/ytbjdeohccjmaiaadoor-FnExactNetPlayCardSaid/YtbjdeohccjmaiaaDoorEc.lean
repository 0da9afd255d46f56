/- YtbjdeohccjmaiaaDoorEc: part of the proof that laws hold, for every input that the row speaks of (no condition of ours). -/
import Derived.Test.YtbjdeohccjmaiaaDoorEb
import Derived.Orders
import Derived.Deep.Draws
import Derived.Sort.Grow
set_option linter.unusedVariables false
set_option linter.unusedSimpArgs false
section
namespace Go.Eng
open Go Go.RowKit
def rv (tmps:Array Value):ResultVar→Sem Value
 | .tmp t=>pure (tmps.getD t undef)
 | .cell a t=>do loadVar t (← asAddr (tmps.getD a undef))
theorem results_rv (fn:Func) (tmps:Array Value):results fn tmps=(do let vs ← fn.results.mapM (rv tmps);pure (if h:vs.size=1 then vs[0] else .tuple vs)):=rfl
def res1 (T:List (TypeId × TyI)) (st:St):ResultVar→Option (Prop × AV)
 | .tmp t=>some (True,lk t st.σ)
 | .cell a t=>match lk a st.σ,tyk t T with
  | .loc d off,some i=>match lkm d st.m with
   | some ls=>ld i (ls.drop off)
   | none=>none
  | _,_=>none
def resL (T:List (TypeId × TyI)) (st:St):List ResultVar→Option (Prop × List AV)
 | []=>some (True,[])
 | r::l=>match res1 T st r,resL T st l with
  | some (c,x),some (c',xs)=>some (c∧c',x::xs)
  | _,_=>none
def oneR:List AV→AV
 | [x]=>x
 | l=>.tup l
theorem res1_ok {E:En} {T:List (TypeId × TyI)} (hT:TysOk E.P T) {st:St} {c:Gh} {w:World} {tmps:Array Value} (hw:c.w=w) (G:Good E st.m st.rn c) (hσ:∀ x,Rd c (lk x st.σ) (tmps.getD x undef)) {r:ResultVar} {cd:Prop} {x:AV} (h:res1 T st r=some (cd,x)) (hc:cd) :
  ∃ v,(rv tmps r).run E.P w = .ok v w∧Rd c x v:=by
 cases r with
 | tmp t =>
  obtain ⟨rfl,rfl⟩:=Prod.mk.inj (Option.some.inj h)
  exact ⟨tmps.getD t undef,rfl,hσ t⟩
 | cell a t =>
  simp only [res1] at h
  split at h
  ·rename_i d off i hx hi
   split at h
   ·rename_i ls hl
    obtain ⟨h4,h5,h6⟩:=ld_ok h hc
    have hr:=hσ a
    rw [hx] at hr
    obtain ⟨b,hb⟩:∃ b,c.β d=b:=⟨_,rfl⟩
    have hv:tmps.getD a undef = .pointer (some ⟨b,off,none⟩):=by generalize tmps.getD a undef=u at hr;cases hr;rw [hb]
    obtain ⟨cs,T',b1,b2,b3,b4,b5⟩:=(G.box d ls hl).cells hr.loc0
    rw [hb,hw] at b2
    obtain ⟨q1,q2⟩:=ldL_ok (c:=c) h4 h5 (fun j=>cs.getD (off + j) undef) (fun j y hy=>b4 (off + j) y (by rw [List.getElem?_drop] at hy;exact hy))
    refine ⟨_,?_,q2⟩
    have:=run_loadVar_cells (hT.get hi) w b off (fun j=>cs.getD (off + j) undef) h6 (fun k hk=>by
     rw [cell_of_row w b _ cs T' (0,0) b2,Array.getD_eq_getD_getElem?]
     have:off + k < cs.size:=by rw [b3];simp only [List.length_drop] at q1;omega
     simp [this])
    simp only [rv,hv,asAddr,Sem.run_bind,Sem.run_pure,Result.andThen_ok,this]
   ·cases h
  ·cases h
theorem resL_ok {E:En} {T:List (TypeId × TyI)} (hT:TysOk E.P T) {st:St} {c:Gh} {w:World} {tmps:Array Value} (hw:c.w=w) (G:Good E st.m st.rn c) (hσ:∀ x,Rd c (lk x st.σ) (tmps.getD x undef)):∀ (l:List ResultVar) (cd:Prop) (xs:List AV),resL T st l=some (cd,xs)→cd→
  ∃ vs:List Value,(l.mapM (rv tmps)).run E.P w = .ok vs w∧vs.length=xs.length∧∀ (j:Nat) (x:AV),xs[j]? = some x→∃ v,vs[j]? = some v∧Rd c x v
 | [],cd,xs,h,_=>by
  obtain ⟨rfl,rfl⟩:=Prod.mk.inj (Option.some.inj h)
  exact ⟨[],rfl,rfl,fun j x hx=>by simp at hx⟩
 | r::l,cd,xs,h,hc=>by
  simp only [resL] at h
  split at h
  ·rename_i c1 x c2 ys h1 h2
   obtain ⟨rfl,rfl⟩:=Prod.mk.inj (Option.some.inj h)
   obtain ⟨v,v1,v2⟩:=res1_ok hT hw G hσ h1 hc.1
   obtain ⟨vs,s1,s2,s3⟩:=resL_ok hT hw G hσ l c2 ys h2 hc.2
   refine ⟨v::vs,?_,by simp [s2],fun j y hy=>?_⟩
   ·simp only [List.mapM_cons,Sem.run_bind,Sem.run_pure]
    rw [v1]
    simp only [Result.andThen_ok]
    rw [s1];rfl
   ·match j,hy with
    | 0,hy=>obtain rfl:=Option.some.inj hy;exact ⟨v,rfl,v2⟩
    | j + 1,hy=>exact s3 j y (by simpa using hy)
  ·cases h
/- owners that go out -/
mutual
def AV.xp (us:List (Nat × Nat)):AV→AV × List (Nat × Nat)
 | .sl (some (d,j,e)) els=>if us.contains (d,j) then (.sl none els,us) else (.sl (some (0,us.length,e)) els,us++[(d,j)])
 | .sl none els=>(.sl none els,us)
 | .v x=>(.v x,us)
 | .nl=>(.nl,us)
 | .agg ls=>let p:=AV.xpAll us ls;(.agg p.1,p.2)
 | .tup ls=>let p:=AV.xpAll us ls;(.tup p.1,p.2)
 | .loc _ _=>(.junk,us)
 | .xs _ _ _ _ _=>(.junk,us)
 | .el ls=>(.el ls,us)
 | .rd=>(.rd,us)
 | .dv x=>(.dv x,us)
 | .mr _=>(.junk,us)
 | .cl _ _ _=>(.junk,us)
 | .mb t=>(.mb t,us)
 | .junk=>(.junk,us)
def AV.xpAll (us:List (Nat × Nat)):List AV→List AV × List (Nat × Nat)
 | []=>([],us)
 | x::l=>let p:=x.xp us;let q:=AV.xpAll p.2 l;(p.1::q.1,q.2)
end
def xpG (c : Gh) (us : List (Nat × Nat)) : Gh :=
  { c with tv := fun k j => if k = 0 then (match us[j]? with | some p => c.tv p.1 p.2 | none => .slice none 0 0) else .slice none 0 0
           te := fun k j => if k = 0 then (match us[j]? with | some p => c.te p.1 p.2 | none => 0) else 0 }

def Pre (us vs:List (Nat × Nat)):Prop:=∃ ws,vs=us++ws
mutual
theorem xp_mono (us:List (Nat × Nat)):∀ x:AV,us.Nodup→Pre us (x.xp us).2∧(x.xp us).2.Nodup
 | .sl (some (d,j,e)) els,h=>by
  simp only [AV.xp]
  split
  ·exact ⟨⟨[],by simp⟩,h⟩
  ·rename_i hc
   refine ⟨⟨[(d,j)],rfl⟩,?_⟩
   rw [List.nodup_append]
   exact ⟨h,by simp,fun a ha b hb=>by simp at hb;subst hb;intro e;subst e;simp at hc;exact hc ha⟩
 | .sl none _,h=>⟨⟨[],by simp [AV.xp]⟩,h⟩
 | .v _,h=>⟨⟨[],by simp [AV.xp]⟩,h⟩
 | .nl,h=>⟨⟨[],by simp [AV.xp]⟩,h⟩
 | .agg ls,h=>xpAll_mono us ls h
 | .tup ls,h=>xpAll_mono us ls h
 | .loc _ _,h=>⟨⟨[],by simp [AV.xp]⟩,h⟩
 | .xs _ _ _ _ _,h=>⟨⟨[],by simp [AV.xp]⟩,h⟩
 | .el _,h=>⟨⟨[],by simp [AV.xp]⟩,h⟩
 | .rd,h=>⟨⟨[],by simp [AV.xp]⟩,h⟩
 | .dv _,h=>⟨⟨[],by simp [AV.xp]⟩,h⟩
 | .mr _,h=>⟨⟨[],by simp [AV.xp]⟩,h⟩
 | .cl _ _ _,h=>⟨⟨[],by simp [AV.xp]⟩,h⟩
 | .mb _,h=>⟨⟨[],by simp [AV.xp]⟩,h⟩
 | .junk,h=>⟨⟨[],by simp [AV.xp]⟩,h⟩
theorem xpAll_mono (us:List (Nat × Nat)):∀ l:List AV,us.Nodup→Pre us (AV.xpAll us l).2∧(AV.xpAll us l).2.Nodup
 | [],h=>⟨⟨[],by simp [AV.xpAll]⟩,h⟩
 | x::l,h=>by
  obtain ⟨⟨w1,h1⟩,h2⟩:=xp_mono us x h
  obtain ⟨⟨w2,h3⟩,h4⟩:=xpAll_mono (x.xp us).2 l h2
  simp only [AV.xpAll]
  exact ⟨⟨w1++w2,by rw [h3,h1,List.append_assoc]⟩,h4⟩
end
theorem xpAll_get (us:List (Nat × Nat)) (hn:us.Nodup):∀ (l:List AV) (j:Nat) (y:AV),(AV.xpAll us l).1[j]? = some y→∃ x us',l[j]? = some x∧y=(x.xp us').1∧us'.Nodup∧Pre (x.xp us').2 (AV.xpAll us l).2
 := by
 intro l
 induction l generalizing us with
 | nil=>intro j y h;simp [AV.xpAll] at h
 | cons x l ih =>
  intro j y h
  simp only [AV.xpAll] at h ⊢
  obtain ⟨_,h2⟩:=xp_mono us x hn
  match j,h with
  | 0,h =>
   obtain rfl:=Option.some.inj h
   exact ⟨x,us,rfl,rfl,hn,(xpAll_mono (x.xp us).2 l h2).1⟩
  | j + 1,h =>
   obtain ⟨z,us',e1,e2,e3,e4⟩:=ih (x.xp us).2 h2 j y (by simpa using h)
   exact ⟨z,us',by simpa using e1,e2,e3,e4⟩
theorem Rd.xp {c:Gh} {x:AV} {v:Value} (h:Rd c x v):∀ (us vs:List (Nat × Nat)),us.Nodup→Pre (x.xp us).2 vs→Rd (xpG c vs) (x.xp us).1 v:=by
 have hk:Keeps c.w c.S c.w c.S:=Keeps.same (fun _ _ h=>h) fun _ _ _=>rfl
 induction h with
 | v x h=>intro us vs _ _;exact .v x h
 | junk x=>intro us vs _ _;exact .junk x
 | nl=>intro us vs _ _;exact .nl
 | rd=>intro us vs _ _;exact (.rd:Rd (xpG c vs) .rd _)
 | dv x v h=>intro us vs _ _;exact .dv x v h
 | loc k off=>intro us vs _ _;exact .junk _
 | mr1 k hb=>intro us vs _ _;exact .junk _
 | cl1 fu ls cs hn _ _=>intro us vs _ _;exact .junk _
 | cl2 fu ls cs hn _ _=>intro us vs _ _;exact .junk _
 | mr2 k hb=>intro us vs _ _;exact .junk _
 | mb t=>intro us vs _ _;exact .mb t
 | xs k off n cap sz hc=>intro us vs _ _;exact .junk _
 | sl tok els v h ht =>
  intro us vs hn hp
  rcases tok with _ | ⟨d,j,e⟩
  ·exact .sl none els v h trivial
  ·simp only [AV.xp] at hp ⊢
   split
   ·exact .sl none els v h trivial
   ·rename_i hc
    rw [if_neg hc] at hp
    obtain ⟨ws,rfl⟩:=hp
    refine .sl _ els v h ?_
    have e1:(us++[(d,j)]++ws)[us.length]? = some (d,j):=by simp
    simp only [TokC,xpG,if_true,e1]
    exact ht
 | agg ls cs hn _ ih =>
  intro us vs hnd hp
  simp only [AV.xp] at hp ⊢
  have hlen:∀ (l:List AV) (us:List (Nat × Nat)),(AV.xpAll us l).1.length=l.length:=by
   intro l;induction l with
   | nil=>intro us;rfl
   | cons x l ih=>intro us;simp [AV.xpAll,ih]
  refine .agg _ cs (by rw [hlen];exact hn) fun j y hy=>?_
  obtain ⟨x,us',e1,rfl,e3,e4⟩:=xpAll_get us hnd ls j y hy
  obtain ⟨w1,hw1⟩:=e4
  obtain ⟨w2,hw2⟩:=hp
  exact ih j x e1 us' vs e3 ⟨w1++w2,by rw [hw2,hw1,List.append_assoc]⟩
 | tup ls cs hn _ ih =>
  intro us vs hnd hp
  simp only [AV.xp] at hp ⊢
  have hlen:∀ (l:List AV) (us:List (Nat × Nat)),(AV.xpAll us l).1.length=l.length:=by
   intro l;induction l with
   | nil=>intro us;rfl
   | cons x l ih=>intro us;simp [AV.xpAll,ih]
  refine .tup _ cs (by rw [hlen];exact hn) fun j y hy=>?_
  obtain ⟨x,us',e1,rfl,e3,e4⟩:=xpAll_get us hnd ls j y hy
  obtain ⟨w1,hw1⟩:=e4
  obtain ⟨w2,hw2⟩:=hp
  exact ih j x e1 us' vs e3 ⟨w1++w2,by rw [hw2,hw1,List.append_assoc]⟩
 | el ls b off f hc hh=>intro us vs _ _;exact .el ls b off f hc hh
def enumA:Nat→List AV→List (Nat × AV)
 | _,[]=>[]
 | k,x::l=>(k,x)::enumA (k + 1) l
theorem lk_enumA (x:Nat):∀ (k:Nat) (l:List AV),lk x (enumA k l)=if k≤x then l.getD (x - k) .junk else .junk
 | k,[]=>by simp [enumA,lk]
 | k,y::l=>by
  simp only [enumA,lk]
  by_cases h:x=k
  ·subst h;simp
  ·rw [if_neg h,lk_enumA x (k + 1) l]
   by_cases h':k≤x
   ·rw [if_pos (by omega),if_pos h',show x - k=(x - (k + 1)) + 1 from by omega];simp
   ·rw [if_neg (by omega),if_neg h']
def st0 (nt:Nat) (args:List AV) (n:Nat):St:={ nt:=nt,σ:=enumA 0 args,m:=[],rn:=n }
def retA (T:List (TypeId × TyI)) (rs:List ResultVar) (C:Con) (args:List AV) (n:Nat):Exit→St→Prop
 | .normal,st | .ret,st=>match resL T st rs with
  | some (c,l)=>c∧(C.draws=true→st.rn≤n + C.cost)∧C.post args (if C.own then ((oneR l).xp []).1 else (oneR l).er)
  | none=>False
 | _,_=>False
theorem RK.rebase {w w':World} {g B B' n n' k:Nat} {bv:Value} (h:RK w g bv B n) (h':RK w' g bv B' n') (hk:n'≤k):RK w' g bv B k:=by
 obtain ⟨h1,T,p,h2,h3,h4,h5⟩:=h
 obtain ⟨g1,T',p',g2,g3,g4,g5⟩:=h'
 refine ⟨h1,T',p',g2,g3,by omega,?_⟩
 rcases g5 with g5 | ⟨cb,off,len,cap,f,e1,e2,e4,e5⟩ | g5
 ·exact .inl g5
 rotate_left
 ·exact .inr (.inr g5)
 ·rcases h5 with h5 | ⟨cb',off',len',cap',f',k1,k2,k4,k5⟩ | h5
  ·exact .inl h5
  rotate_left
  ·exact .inr (.inr h5)
  ·rw [k1] at e1
   simp only [Value.slice.injEq,Option.some.injEq,Addr.mk.injEq,and_true] at e1
   obtain ⟨⟨rfl,rfl⟩,rfl,rfl⟩:=e1
   exact .inr (.inl ⟨cb',off',len',cap',f,k1,k2,e4,e5⟩)
theorem valid_of {P : Program} {f : FuncId} {fn : Func} {body : Code} {T : List (TypeId × TyI)} {C : Con} (hf : P.funcs[f]? = some fn) (hb : fn.body = some body) (hT : TysOk P T)
    (h : ∀ args, C.pre args → args.length ≤ fn.ntmps ∧ ∀ n, (C.draws = true → n + C.cost ≤ lim) → ∀ E : En, E.P = P → E.draws = C.draws → (∀ b, ¬ E.L b) → C.inv E.w0 → Aw E body (st0 fn.ntmps args n) (retA T fn.results.toList C args n)) : Valid P f C := by
  intro c args vs bv B n hsz hrd her hpre hinv hsx hs1 hdr
  obtain ⟨hl, h⟩ := h args hpre
  let E : En := { P := P, w0 := c.w, draws := C.draws, g := c.g, bv := bv, S0 := c.S }
  have ha := h n (fun e => (hdr e).2.2.2) E rfl rfl (fun _ h => h) hinv
  refine calls_of_wp hf hb (Go.wp_mono (ha { tmps := vs ++ Array.replicate (fn.ntmps - vs.size) undef, defers := [] } c.w ?_) ?_)
  · let c0 : Gh := { w := c.w, S := c.S, β := fun _ => 0, tv := fun _ _ => .slice none 0 0, te := fun _ _ => 0, g := c.g }
    refine ⟨c0, rfl, ?_, fun x => ?_, by simp [st0, hsz]; omega, rfl⟩
    · exact { bl := fun _ _ => rfl, cg := rfl, fr := ⟨rfl, rfl, rfl, Nat.le_refl _, fun _ _ _ _ => rfl⟩, lx := fun _ _ h => h.elim, sx := hsx, s1 := hs1, sS := fun _ _ h => .inr h, sg := fun hd => (hdr hd).1, box := fun d ls hl => by simp [st0, lkm] at hl, boxinj := fun d d' l l' hl => by simp [st0, lkm] at hl,
              tok := fun _ _ => .inl rfl, toktok := fun _ _ _ _ b hb => by simp [c0, Value.ownBlock] at hb, tokbox := fun _ _ b _ _ hb => by simp [c0, Value.ownBlock] at hb,
              rk := fun hd => by
                obtain ⟨_, hk, hB, _⟩ := hdr hd
                obtain ⟨h1, T', p, h2, h3, h4, h5⟩ := hk
                refine ⟨Nat.lt_of_lt_of_le h1 hB, T', p, h2, h3, h4, ?_⟩
                rcases h5 with h5 | ⟨cb, off, len, cap, f, e1, e2, e3, e4⟩ | h5
                · exact .inl h5
                · exact .inr (.inl ⟨cb, off, len, cap, f, e1, fun h => ⟨(e2 h).1, Nat.lt_of_lt_of_le (e2 h).2 hB⟩, e3, e4⟩)
                · exact .inr (.inr h5) }
    · simp only [st0, lk_enumA, Nat.zero_le, if_true, Nat.sub_zero]
      by_cases hx : x < args.length
      · have e1 : args.getD x .junk = args[x] := by simp [List.getD_eq_getElem?_getD, hx]
        have e2 : (vs ++ Array.replicate (fn.ntmps - vs.size) undef).getD x undef = vs.getD x undef := by
          simp only [Array.getD_eq_getD_getElem?]
          rw [Array.getElem?_append_left (by omega)]
        rw [e1, e2]
        have := (hrd x args[x] (List.getElem?_eq_getElem hx)).er (c := c) (c' := c0) (Keeps.same (fun _ _ h => h) fun _ _ _ => rfl) rfl
        rwa [her _ (List.getElem_mem _)] at this
      · have e1 : args.getD x .junk = .junk := by simp [List.getD_eq_getElem?_getD, hx]
        rw [e1]; exact .junk _
  · rintro e a' w' ⟨st', ⟨c1, hw1, G, hσ, hn, hd⟩, hq⟩
    have fin : (match resL T st' fn.results.toList with
        | some (cd, l) => cd ∧ (C.draws = true → st'.rn ≤ n + C.cost) ∧ C.post args (if C.own then ((oneR l).xp []).1 else (oneR l).er)
        | none => False) → a'.defers = [] ∧ ∃ v, (results fn a'.tmps).run P w' = .ok v w' ∧ ∃ v' r c', Ending.returned v = Ending.returned v' ∧ C.post args r ∧ Out P C c bv B n r v' w' c' := by
      intro hq
      split at hq
      · rename_i cd l hr
        obtain ⟨q1, q2, q3⟩ := hq
        obtain ⟨vs', s1, s2, s3⟩ := resL_ok (E := E) hT hw1 G hσ fn.results.toList cd l hr q1
        have hres : (results fn a'.tmps).run P w' = .ok (if h : vs'.length = 1 then vs'[0] else .tuple vs'.toArray) w' := by
          have s1' : (List.mapM (rv a'.tmps) fn.results.toList).run P w' = .ok vs' w' := s1
          rw [results_rv, Array.mapM_eq_mapM_toList]
          simp only [Sem.run_bind, Sem.run_map, s1', Result.andThen_ok, List.size_toArray, Sem.run_pure]
          congr 1
        have hone : Rd c1 (oneR l) (if h : vs'.length = 1 then vs'[0] else .tuple vs'.toArray) := by
          by_cases h1 : vs'.length = 1
          · rw [dif_pos h1]
            obtain ⟨x, rfl⟩ : ∃ x, l = [x] := List.length_eq_one_iff.1 (by omega)
            obtain ⟨v, v1, v2⟩ := s3 0 x rfl
            have : vs'[0] = v := by
              have h0 := List.getElem?_eq_getElem (l := vs') (i := 0) (by omega)
              rw [h0] at v1; exact Option.some.inj v1
            rw [this]; exact v2
          · rw [dif_neg h1]
            have e : oneR l = .tup l := by
              unfold oneR
              split
              · simp at s2; omega
              · rfl
            rw [e]
            refine .tup l _ (by simpa using s2) fun j x hx => ?_
            obtain ⟨v, v1, v2⟩ := s3 j x hx
            have : vs'.toArray.getD j undef = v := by simp [Array.getD_eq_getD_getElem?, v1]
            rw [this]; exact v2
        generalize (if h : vs'.length = 1 then vs'[0] else .tuple vs'.toArray) = val at hres hone
        refine ⟨hd, val, hres, val, _, (if C.own then xpG c1 ((oneR l).xp []).2 else xpG c1 []), rfl, q3, ?_⟩
        have hus : ((oneR l).xp []).2.Nodup := (xp_mono [] (oneR l) List.nodup_nil).2
        have gen : ∀ us : List (Nat × Nat), us.Nodup → ∀ r, Rd (xpG c1 us) r val → Out P C c bv B n r val w' (xpG c1 us) := fun us hnd r hr' => by
          have htv : ∀ k j b, ((xpG c1 us).tv k j).ownBlock = some b → k = 0 ∧ ∃ p, us[j]? = some p ∧ (c1.tv p.1 p.2).ownBlock = some b := fun k j b hb => by
            simp only [xpG] at hb
            split at hb
            · rename_i hk
              split at hb
              · rename_i p hp; exact ⟨hk, p, hp, hb⟩
              · simp [Value.ownBlock] at hb
            · simp [Value.ownBlock] at hb
          refine { w := hw1, g := G.cg, rd := hr', fr := ?_, S := G.sS, sx := G.sx, s1 := G.s1, tok := fun k j => ?_, toktok := fun k j k' j' b h1 h2 => ?_, rk := fun hd' => ?_ }
          · have := G.fr.by (fun _ h => h); rw [hw1] at this; exact this
          · by_cases hk : k = 0
            · cases hj : us[j]? with
              | none => exact .inl (by simp [xpG, hk, hj])
              | some p =>
                rcases G.tok p.1 p.2 with h | ⟨g, nn, cap, cur, i, t1, t2, t3, t4, t5, t6, t7, t8⟩
                · exact .inl (by simp [xpG, hk, hj, h])
                · exact .inr ⟨g, nn, cap, cur, i, by simp [xpG, hk, hj, t1], t2, by simpa [xpG, hk, hj] using t3, t4, t5, by simpa [xpG, hk, hj] using t6, t7, t8⟩
            · exact .inl (by simp [xpG, hk])
          · obtain ⟨rfl, p, p1, p2⟩ := htv k j b h1
            obtain ⟨rfl, p', p1', p2'⟩ := htv k' j' b h2
            obtain ⟨e1, e2⟩ := G.toktok _ _ _ _ b p2 p2'
            have hpp : p = p' := Prod.ext e1 e2
            subst hpp
            refine ⟨rfl, ?_⟩
            exact (List.getElem?_inj (List.getElem?_eq_some_iff.1 p1).1 hnd).1 (p1.trans p1'.symm)
          · have h1 := (hdr hd').2.1
            have h2 := G.rk hd'
            rw [hw1] at h2
            exact h1.rebase h2 (q2 hd')
        cases hown : C.own
        · simp only [Bool.false_eq_true, if_false]
          refine gen [] List.nodup_nil _ (hone.er (c := c1) (c' := xpG c1 []) (Keeps.same (fun _ _ h => h) fun _ _ _ => rfl) rfl)
        · simp only [if_true]
          exact gen _ hus _ (hone.xp [] _ List.nodup_nil ⟨[], by simp⟩)
      · exact hq.elim
    cases e with
    | normal => exact fin hq
    | ret => exact fin hq
    | _ => exact hq.elim

def retM (T:List (TypeId × TyI)) (rs:List ResultVar) (C:ConM) (args:List AV) (m1:List (Nat × List AV)):Exit→St→Prop
 | .normal,st | .ret,st=>match resL T st rs with
  | some (c,l)=>c∧C.post args m1 (oneR l).nt (ntm st.m)
  | none=>False
 | _,_=>False
def stM (nt:Nat) (args:List AV) (m1:List (Nat × List AV)):St:={ nt:=nt,σ:=enumA 0 args,m:=m1,rn:=0 }
theorem lkm_mem {d:Nat} {ls:List AV}:∀ {m:List (Nat × List AV)},lkm d m=some ls→d ∈ m.map (·.1)
 | [],h=>by simp [lkm] at h
 | (k,l)::m,h=>by
  simp only [lkm] at h
  split at h
  ·rename_i e;subst e;simp
  ·exact List.mem_cons_of_mem _ (lkm_mem h)
theorem valid_ofM {P : Program} {f : FuncId} {fn : Func} {body : Code} {T : List (TypeId × TyI)} {C : ConM} (hf : P.funcs[f]? = some fn) (hb : fn.body = some body) (hT : TysOk P T)
    (h : ∀ args m1, C.pre args m1 → args.length ≤ fn.ntmps ∧ ∀ E : En, E.P = P → E.draws = false → (∀ w', GrownL E.w0 w' none E.L → C.inv w') → (∀ b, E.L b → ∃ d ∈ m1.map (·.1), 1000 ≤ d ∧ E.b0 d = b) → Aw E body (stM fn.ntmps args m1) (retM T fn.results.toList C args m1)) : ValidM P f C := by
  intro c args m1 vs hsz hrd hnt hpre hinv hsx hs1 hbox hbinj
  obtain ⟨hl, h⟩ := h args m1 hpre
  let E : En := { P := P, w0 := c.w, draws := false, g := c.g, bv := .nilIface, S0 := c.S, L := fun b => ∃ d ls, lkm d m1 = some ls ∧ c.β d = b, b0 := c.β }
  have ha := h E rfl rfl hinv fun b ⟨d, ls, hl, e⟩ => ⟨d, lkm_mem hl, (hbox d ls hl).1, e⟩
  let c0 : Gh := { w := c.w, S := c.S, β := c.β, tv := fun _ _ => .slice none 0 0, te := fun _ _ => 0, g := c.g }
  have hk0 : Keeps c.w c.S c0.w c0.S := Keeps.same (fun _ _ h => h) fun _ _ _ => rfl
  refine calls_of_wp hf hb (Go.wp_mono (ha { tmps := vs ++ Array.replicate (fn.ntmps - vs.size) undef, defers := [] } c.w ?_) ?_)
  · refine ⟨c0, rfl, ?_, fun x => ?_, by simp [stM, hsz]; omega, rfl⟩
    · exact { bl := fun _ _ => rfl, cg := rfl, fr := ⟨rfl, rfl, rfl, Nat.le_refl _, fun _ _ _ _ => rfl⟩, lx := fun h => (by cases h), sx := hsx, s1 := hs1, sS := fun _ _ h => .inr h, sg := fun h => (by cases h),
              box := fun d ls hl => by
                obtain ⟨q0, q1, cs, T, q2, q3, q4, q5⟩ := hbox d ls hl
                refine ⟨cs, T, .inr ⟨d, ls, hl, rfl⟩, q2, q3, fun j x hx => ?_, q5⟩
                have := (q4 j x hx).nt (c' := c0) hk0 rfl
                have e : x.nt = x := by
                  have h1 : (AV.ntAll ls)[j]? = some x.nt := by rw [ntAll_eq, List.getElem?_map, hx]; rfl
                  rw [q1, hx] at h1
                  exact (Option.some.inj h1).symm
                rwa [e] at this
              boxinj := hbinj,
              tok := fun _ _ => .inl rfl, toktok := fun _ _ _ _ b hb => by simp [c0, Value.ownBlock] at hb, tokbox := fun _ _ b _ _ hb => by simp [c0, Value.ownBlock] at hb,
              rk := fun h => by cases h }
    · simp only [stM, lk_enumA, Nat.zero_le, if_true, Nat.sub_zero]
      by_cases hx : x < args.length
      · have e1 : args.getD x .junk = args[x] := by simp [List.getD_eq_getElem?_getD, hx]
        have e2 : (vs ++ Array.replicate (fn.ntmps - vs.size) undef).getD x undef = vs.getD x undef := by
          simp only [Array.getD_eq_getD_getElem?]
          rw [Array.getElem?_append_left (by omega)]
        rw [e1, e2]
        have := (hrd x args[x] (List.getElem?_eq_getElem hx)).nt (c' := c0) hk0 rfl
        rwa [hnt _ (List.getElem_mem _)] at this
      · have e1 : args.getD x .junk = .junk := by simp [List.getD_eq_getElem?_getD, hx]
        rw [e1]; exact .junk _
  · rintro e a' w' ⟨st', ⟨c1, hw1, G, hσ, hn, hd⟩, hq⟩
    have fin : (match resL T st' fn.results.toList with
        | some (cd, l) => cd ∧ C.post args m1 (oneR l).nt (ntm st'.m)
        | none => False) → a'.defers = [] ∧ ∃ v, (results fn a'.tmps).run P w' = .ok v w' ∧ ∃ v' r m2 c', Ending.returned v = Ending.returned v' ∧ C.post args m1 r m2 ∧ OutM P c m1 m2 r v' w' c' := by
      intro hq
      split at hq
      · rename_i cd l hr
        obtain ⟨q1, q3⟩ := hq
        obtain ⟨vs', s1, s2, s3⟩ := resL_ok (E := E) hT hw1 G hσ fn.results.toList cd l hr q1
        have hres : (results fn a'.tmps).run P w' = .ok (if h : vs'.length = 1 then vs'[0] else .tuple vs'.toArray) w' := by
          have s1' : (List.mapM (rv a'.tmps) fn.results.toList).run P w' = .ok vs' w' := s1
          rw [results_rv, Array.mapM_eq_mapM_toList]
          simp only [Sem.run_bind, Sem.run_map, s1', Result.andThen_ok, List.size_toArray, Sem.run_pure]
          congr 1
        have hone : Rd c1 (oneR l) (if h : vs'.length = 1 then vs'[0] else .tuple vs'.toArray) := by
          by_cases h1 : vs'.length = 1
          · rw [dif_pos h1]
            obtain ⟨x, rfl⟩ : ∃ x, l = [x] := List.length_eq_one_iff.1 (by omega)
            obtain ⟨v, v1, v2⟩ := s3 0 x rfl
            have : vs'[0] = v := by
              have h0 := List.getElem?_eq_getElem (l := vs') (i := 0) (by omega)
              rw [h0] at v1; exact Option.some.inj v1
            rw [this]; exact v2
          · rw [dif_neg h1]
            have e : oneR l = .tup l := by
              unfold oneR
              split
              · simp at s2; omega
              · rfl
            rw [e]
            refine .tup l _ (by simpa using s2) fun j x hx => ?_
            obtain ⟨v, v1, v2⟩ := s3 j x hx
            have : vs'.toArray.getD j undef = v := by simp [Array.getD_eq_getD_getElem?, v1]
            rw [this]; exact v2
        generalize (if h : vs'.length = 1 then vs'[0] else .tuple vs'.toArray) = val at hres hone
        refine ⟨hd, val, hres, val, _, _, c1, rfl, q3, ?_⟩
        have hk1 : Keeps c1.w c1.S c1.w c1.S := Keeps.same (fun _ _ h => h) fun _ _ _ => rfl
        refine { w := hw1, rd := hone.nt hk1 rfl, fr := ?_, S := G.sS, sx := G.sx, s1 := G.s1, box := fun d ls hl => ?_, boxinj := fun d d' ls ls' h1 h2 he => ?_, bl := G.bl }
        · have := G.fr; rw [hw1] at this; exact this
        · rw [lkm_nt, Option.map_eq_some_iff] at hl
          obtain ⟨ls0, hl0, rfl⟩ := hl
          obtain ⟨cs, T, b1, b2, b3, b4, b5⟩ := G.box d ls0 hl0
          refine ⟨cs, T, b1, b2, by rw [ntAll_eq, List.length_map]; exact b3, fun j x hx => ?_, b5⟩
          rw [ntAll_eq, List.getElem?_map, Option.map_eq_some_iff] at hx
          obtain ⟨y, hy, rfl⟩ := hx
          exact (b4 j y hy).nt hk1 rfl
        · rw [lkm_nt, Option.map_eq_some_iff] at h1 h2
          obtain ⟨l1, h1, _⟩ := h1
          obtain ⟨l2, h2, _⟩ := h2
          exact G.boxinj d d' l1 l2 h1 h2 he
      · exact hq.elim
    cases e with
    | ret => exact fin hq
    | normal => exact fin hq
    | _ => exact hq.elim
def fieldsD:TypeDesc→List (Nat × TypeId)
 | .struct fs=>fs.toList.map fun f=>(f.offset,f.type)
 | _=>[]
def elemD:TypeDesc→Option TypeId
 | .slice e=>some e
 | _=>none
def ikD:TypeDesc→Option IntKind
 | .int k=>some k
 | _=>none
def isbD:TypeDesc→Bool
 | .bool=>true
 | _=>false
def issD:TypeDesc→Bool
 | .string=>true
 | _=>false
def isIfcD:TypeDesc→Bool
 | .interface _=>true
 | _=>false
def Eq2 (P:Program) (t:TypeId):Prop :=
 ∀ (w:World) (x y:Operand) (a b c d:Int),(eqGuard .eql t x y (.agg #[.int .i64 a,.int .i64 b]) (.agg #[.int .i64 c,.int .i64 d])).run P w = .ok () w∧(eqGuard .neq t x y (.agg #[.int .i64 a,.int .i64 b]) (.agg #[.int .i64 c,.int .i64 d])).run P w = .ok () w∧
  (binOp .eql t (.agg #[.int .i64 a,.int .i64 b]) (.agg #[.int .i64 c,.int .i64 d])).run P w = .ok (.bool (a == c && b == d)) w∧(binOp .neq t (.agg #[.int .i64 a,.int .i64 b]) (.agg #[.int .i64 c,.int .i64 d])).run P w = .ok (.bool (!(a == c && b == d))) w
def Eq3 (P:Program) (t:TypeId):Prop:=(∀ (w:World) (x y:Operand) (a b c d e f:Int),(eqGuard .eql t x y (.agg #[.int .i64 a,.int .i64 b,.int .i64 c]) (.agg #[.int .i64 d,.int .i64 e,.int .i64 f])).run P w = .ok () w∧(eqGuard .neq t x y (.agg #[.int .i64 a,.int .i64 b,.int .i64 c]) (.agg #[.int .i64 d,.int .i64 e,.int .i64 f])).run P w = .ok () w∧
  (binOp .eql t (.agg #[.int .i64 a,.int .i64 b,.int .i64 c]) (.agg #[.int .i64 d,.int .i64 e,.int .i64 f])).run P w = .ok (.bool ((a == d && b == e) && c == f)) w∧(binOp .neq t (.agg #[.int .i64 a,.int .i64 b,.int .i64 c]) (.agg #[.int .i64 d,.int .i64 e,.int .i64 f])).run P w = .ok (.bool (!((a == d && b == e) && c == f))) w)
theorem tyOk_of {P:Program} {t:TypeId} {i:TyI} {d:TypeDesc} (h1:(P.info? t).map (fun q=>(q.size,q.zero.map (fun z=>z.cells.toList),decide (q.bytes≤32768) && (decide (q.size=0) || decide (q.bytes≠0))))=some (i.size,some i.zero,true)) (hz:i.zero.length=i.size) (h2:P.underlying t=some d)
  (h3:isAggD d=i.agg) (h4:fieldsD d=i.fields) (h5:elemD d=i.elem) (h6:ikD d=i.ik) (h7:isbD d=i.isb) (h8:issD d=i.iss) (h9:i.eq2=true→Eq2 P t) (h10:i.ifc=true→isIfcD d=true:=by intro h;cases h) (h11:i.np=true→npD d=true:=by intro h;cases h) (h12:i.emp=true→d = .struct #[]∧i.size=0:=by intro h;cases h) (h13:i.ptr=true→∃ e,d = .pointer e:=by intro h;cases h) (h14:∀ kd z,i.mp=some (kd,z)→MpTy P t kd z:=by intro _ _ h;cases h) (h15:i.eq3=true→Eq3 P t:=by intro h;cases h):TyOk P t i:=by
 obtain ⟨q,hq,h1⟩:=Option.map_eq_some_iff.1 h1
 simp only [Prod.mk.injEq,Bool.and_eq_true,Bool.or_eq_true,decide_eq_true_eq] at h1
 obtain ⟨e1,e2,e3,e4⟩:=h1
 obtain ⟨z,hz1,hz2⟩:=Option.map_eq_some_iff.1 e2
 refine { inf:=⟨q,z,d,hq,e1,hz1,hz2,by rw [← hz,← hz2];simp,e3,h2,h3⟩,flds:=fun hne=>?_,el:=fun e he=>?_,ik:=fun k hk=>?_,bl:=fun hb=>?_,ss:=fun hs=>?_,fc:=fun hf=>?_,bz:=fun hne q' hq'=>by (rw [hq] at hq';obtain rfl:=Option.some.inj hq';exact e4.resolve_left (by rw [e1];exact hne)),np:=fun hf=>⟨d,h2,h11 hf⟩,pr:=fun hf=>(by obtain ⟨e,rfl⟩:=h13 hf;exact ⟨e,h2⟩),em:=fun hf=>⟨by rw [h2,(h12 hf).1],(h12 hf).2⟩,mpk:=h14,e2:=h9,e3:=h15 }
 ·rw [← h4] at hne ⊢
  cases d<;>first | exact absurd rfl hne | exact ⟨_,h2,rfl⟩
 ·rw [← h5] at he
  cases d<;>simp [elemD] at he
  subst he;exact h2
 ·rw [← h6] at hk
  cases d<;>simp [ikD] at hk
  subst hk;exact h2
 ·rw [← h7] at hb
  cases d<;>simp [isbD] at hb
  exact h2
 ·rw [← h8] at hs
  cases d<;>simp [issD] at hs
  exact h2
 ·have:=h10 hf
  cases d<;>simp [isIfcD] at this
  exact ⟨_,h2⟩
theorem tysOk_nil {P:Program}:TysOk P []:=fun _ h=>by cases h
theorem tysOk_cons {P:Program} {t:TypeId} {i:TyI} {T:List (TypeId × TyI)} (h:TyOk P t i) (hT:TysOk P T):TysOk P ((t,i)::T):=fun p hp=>by
 rcases List.mem_cons.1 hp with rfl | hp
 ·exact h
 ·exact hT p hp
theorem eq2_of {P:Program} {t:TypeId} {f1 f2:Field} {e1 e2:TypeId} (h:P.underlying t=some (.struct #[f1,f2])) (hp:P.stoodInHeld t=false) (hg:P.eqGuardType P.depth t=false) (n1:f1.name≠ "_") (n2:f2.name≠ "_") (o1:f1.offset=0) (o2:f2.offset=1)
  (t1:f1.type=e1) (t2:f2.type=e2) (u1:P.underlying e1=some (.int .i64)) (u2:P.underlying e2=some (.int .i64)):Eq2 P t:=by
 intro w x y a b c d
 have hf:P.fieldsOf t = #[f1,f2]:=by simp [Program.fieldsOf,h]
 have g1:∀ op,(eqGuard op t x y (.agg #[.int .i64 a,.int .i64 b]) (.agg #[.int .i64 c,.int .i64 d])).run P w = .ok () w:=fun op=>by
  cases op<;>simp [eqGuard,hg]
 have hpart:∀ (e:TypeId) (u:P.underlying e=some (.int .i64)) (p q:Int) (off:Nat) (r:Int),(#[Value.int .i64 p,.int .i64 q])[off]? = some (.int .i64 r)→(part e #[.int .i64 p,.int .i64 q] off).run P w = .ok (.int .i64 r) w:=fun e u p q off r hr=>by
  simp [part,isAgg,run_underlying u,hr]
 have heq:(Op.equalIn 10000 t (.agg #[.int .i64 a,.int .i64 b]) (.agg #[.int .i64 c,.int .i64 d])).run P w = .ok (a == c && b == d) w:=by
  rw [run_equalIn_struct w 9999 t _ _ (by rw [hf];exact h) hp,hf]
  simp only [Op.eqFields,n1,n2,ne_eq,not_false_eq_true,if_true,Sem.run_bind,o1,o2,t1,t2]
  rw [hpart e1 u1 a b 0 a rfl]
  simp only [Result.andThen_ok]
  rw [hpart e1 u1 c d 0 c rfl]
  simp only [Result.andThen_ok]
  rw [run_equalIn_int w 9998 e1 .i64 .i64 a c u1]
  simp only [Result.andThen_ok]
  by_cases h1:a=c
  ·subst h1
   simp only [beq_self_eq_true,Bool.not_true,Bool.false_eq_true,if_false,Bool.true_and,Sem.run_bind]
   rw [hpart e2 u2 a b 1 b rfl]
   simp only [Result.andThen_ok]
   rw [hpart e2 u2 a d 1 d rfl]
   simp only [Result.andThen_ok]
   rw [run_equalIn_int w 9998 e2 .i64 .i64 b d u2]
   simp only [Result.andThen_ok]
   by_cases h2:b=d
   ·subst h2;simp
   ·have:(b == d)=false:=by simpa using h2
    simp [this]
  ·have:(a == c)=false:=by simpa using h1
   simp [this]
 refine ⟨g1 _,g1 _,?_,?_⟩
 ·simp [binOp,Op.equal,Op.maxDepth,heq]
 ·simp [binOp,Op.equal,Op.maxDepth,heq]
structure Eqv (st st':St):Prop where
 nt:st'.nt=st.nt
 rn:st'.rn=st.rn
 σ:∀ x,lk x st'.σ=lk x st.σ
 m:∀ k,lkm k st'.m=lkm k st.m
theorem Eqv.refl (st:St):Eqv st st:=⟨rfl,rfl,fun _=>rfl,fun _=>rfl⟩
theorem Eqv.symm {a b:St} (h:Eqv a b):Eqv b a:=⟨h.nt.symm,h.rn.symm,fun x=>(h.σ x).symm,fun k=>(h.m k).symm⟩
theorem Eqv.trans {a b c:St} (h:Eqv a b) (k:Eqv b c):Eqv a c:=⟨k.nt.trans h.nt,k.rn.trans h.rn,fun x=>(k.σ x).trans (h.σ x),fun x=>(k.m x).trans (h.m x)⟩
theorem R.eqv {E:En} {st st':St} {a:Act} {w:World} (h:R E st a w) (e:Eqv st st'):R E st' a w:=by
 obtain ⟨c,h1,h2,h3,h4,h5⟩:=h
 exact ⟨c,h1,by rw [e.rn];exact h2.congr e.m,fun x=>by rw [e.σ];exact h3 x,by rw [e.nt];exact h4,h5⟩
theorem Eqv.ev {a b:St} (h:Eqv a b) (x:Operand):b.ev x=a.ev x:=by
 cases x<;>simp only [St.ev,h.σ]
def bsl (T:List (TypeId × TyI)) (t:TypeId) (n:Nat) (parts:List (Nat × Operand)) (ev:Operand→AV):Option (Prop × AV) :=
 match elt T t,dop.partsE ev parts with
 | some (_,ie),some ps=>match fillL (fun k=>some (k * ie.size,ie.size)) (List.replicate (n * ie.size) .junk) ps with
  | some rs=>match DV.ofAll rs with
   | some ys=>some (0 < ie.size∧n * ie.size≤16777216,.sl none (chunks ie.size n ys))
   | none=>none
  | none=>none
 | _,_=>none
def dopD (T:List (TypeId × TyI)) (gl:List (Nat × Value)) (op:Op) (ev:Operand→AV) (m:Nat→Option (List AV)):Option (Prop × AV) :=
 match op with
 | .buildSlice t n parts=>bsl T t n parts.toList ev
 | op=>dop T gl op ev m
theorem R.newrowN {E : En} {st : St} {a : Act} {w : World} {c : Gh} (hw : c.w = w) (G : Good E st.m st.rn c) (hσ : ∀ x, Rd c (lk x st.σ) (a.tmps.getD x undef)) (hnt : a.tmps.size = st.nt) (hd : a.defers = [])
    (dst : Option Nat) (e : TypeId) (sz : Nat) (els : List (List DV)) (n : Nat) (cur : Array Value) (hn : els.length = n) (hsz : cur.size = n * sz)
    (hrow : ∀ row ∈ els, row.length = sz) (hrd : ∀ p q row x, els[p]? = some row → row[q]? = some x → RdD w c.S x (cur.getD (p * sz + q) undef)) :
    R E (st.put dst (.sl none els)) (a.put dst (.slice (some ⟨w.heap.size, 0, none⟩) n n)) (w.alloc (.cells cur e)) := by
  subst hw
  have hnew : (c.w.alloc (.cells cur e)).heap[c.w.heap.size]? = some (.cells cur e (0, 0)) := Go.heap_alloc_new c.w _
  have hold : ∀ k, k < c.w.heap.size → (c.w.alloc (.cells cur e)).heap[k]? = c.w.heap[k]? := fun k hk => Below.heap_alloc c.w _ k hk
  have hkeep : Keeps c.w c.S (c.w.alloc (.cells cur e)) (addS c.S c.w.heap.size (n * sz)) :=
    keeps_of_lt (fun _ _ h => .inl h) fun b o _ hb => hold b hb
  let c' : Gh := { c with w := c.w.alloc (.cells cur e), S := addS c.S c.w.heap.size (n * sz) }
  have hk : ∀ {x v}, Rd c x v → Rd c' x v := fun h => h.keep (c' := c') hkeep rfl rfl rfl rfl
  have hle := G.hle
  have hone : ∀ o, o < n * sz → (cur.getD o undef).oneCell' = true := fun o ho' => by
    obtain ⟨h1, h2, h3⟩ := div_row ho'
    have e1 : els[o / sz]? = some (els[o / sz]'(by omega)) := List.getElem?_eq_getElem (by omega)
    have hl : (els[o / sz]'(by omega)).length = sz := hrow _ (List.getElem_mem _)
    have e2 : (els[o / sz]'(by omega))[o % sz]? = some ((els[o / sz]'(by omega))[o % sz]'(by omega)) := List.getElem?_eq_getElem (by omega)
    have := (hrd _ _ _ _ e1 e2).one
    rwa [h3] at this
  have hcell : ∀ o, o < n * sz → (c.w.alloc (.cells cur e)).cell? ⟨c.w.heap.size, o, none⟩ = some (cur.getD o undef) := fun o ho => by
    rw [cell_of_row _ _ _ cur e (0, 0) hnew]
    have : o < cur.size := by omega
    simp [this, Array.getD_eq_getD_getElem?]
  refine R.put (c := c') rfl ?_ (fun x => hk (hσ x)) hnt hd (.sl none els _ ?_ trivial)
  · refine { bl := G.bl, cg := G.cg, fr := grownL_of G.fr rfl rfl rfl (by show c.w.heap.size ≤ (c.w.alloc _).heap.size; simp) (fun k hk _ => hold k (by omega)), lx := G.lx, sx := fun b o h => ?_, s1 := fun b o v h hv => ?_, sS := fun b o h => ?_, sg := fun hdd o h => ?_, box := fun k ls hl => ?_, boxinj := G.boxinj,
              tok := fun k j => ?_, toktok := G.toktok, tokbox := G.tokbox, rk := fun h => (G.rk h).same (fun k hk _ => hold k (by omega)) (Nat.le_refl _) }
    · rcases h with h | ⟨rfl, h⟩
      · exact hkeep.lk h (G.sx b o h)
      · exact .inl ⟨_, hcell o h⟩
    · rcases h with h | ⟨rfl, h⟩
      · exact s1_keep G hkeep h hv
      · have := hcell o h
        rw [this] at hv
        obtain rfl := Option.some.inj hv
        exact hone o h
    · rcases h with h | ⟨rfl, h⟩
      · exact G.sS b o h
      · exact .inl hle
    · rcases h with h | ⟨h, _⟩
      · exact G.sg hdd o h
      · have := (G.rk hdd).1; omega
    · obtain ⟨cs, T, b1, b2, b3, b4, b5⟩ := G.box k ls hl
      have hbk := (G.box k ls hl).lt
      refine ⟨cs, T, b1, (hold _ hbk.2).trans b2, b3, fun j x hx => hk (b4 j x hx), fun o ho => ?_⟩
      rcases ho with ho | ⟨ho, _⟩
      · exact b5 o ho
      · change c.β k = c.w.heap.size at ho
        omega
    · refine tok_keep (G.tok k j) rfl rfl fun b hb => ?_
      have hl := (G.tok k j).lt hb
      refine ⟨hold b hl.2, fun o h => ?_⟩
      rcases h with h | ⟨h, _⟩
      · exact h
      · omega
  · refine .sl els c.w.heap.size 0 n n sz (fun k => cur.getD k undef) hn.symm (Nat.le_refl _) hrow (fun k hk => ⟨.inr ⟨rfl, by omega⟩, ?_⟩) (fun p q row x hp hq => (hrd p q row x hp hq).keep hkeep)
    rw [Nat.zero_add]; exact hcell k hk

section
variable {E:En} {st:St} {a:Act} {w:World} {o:Oper}
theorem op_buildSliceN (h:R E st a w) (t:TypeId) (n:Nat) (parts:Array (Nat × Operand)) (ho:o.op = .buildSlice t n parts) {T:List (TypeId × TyI)} (hT:TysOk E.P T) {c:Prop} {r:AV} (hd:bsl T t n parts.toList st.ev=some (c,r)) (hc:c):Yields E o (st.put o.dst r) a w:=by
 unfold bsl at hd
 split at hd
 ·rename_i e ie ps he hps
  split at hd
  ·rename_i rs hrs
   split at hd
   ·rename_i ys hys
    obtain ⟨rfl,rfl⟩:=Prod.mk.inj (Option.some.inj hd)
    obtain ⟨hpos,hsz⟩:=hc
    rw [partsE_eq] at hps
    obtain ⟨i,ht,hel,hte⟩:=elt_ok hT he
    obtain ⟨c,h1,h2,h3,h4,h5⟩:=h
    obtain ⟨q,z,dd,e1,e2,e3,e4,e5,_⟩:=hte.inf
    obtain ⟨p1,p2⟩:=partsL_ok h3 parts.toList ps hps
    let zero:Array Value:=if n * ie.size=0 then #[] else z.cells
    obtain ⟨cs',g1,g2,g3⟩:=fill_ok (c:=c) ps _ (List.replicate (n * ie.size) .junk) rs ((Array.range (n * ie.size)).map (zero[· % zero.size]!)) hrs p1 p2 (by simp) (fun j x hx=>by
     rw [List.getElem?_replicate] at hx
     split at hx
     ·obtain rfl:=Option.some.inj hx;exact .junk _
     ·cases hx)
    obtain ⟨o1,o2⟩:=ofAll_get hys
    have hlen:ys.length=n * ie.size:=by
     rw [o1]
     have:∀ (ps:List (Nat × List AV)) (zs rs:List AV),fillL (fun k=>some (k * ie.size,ie.size)) zs ps=some rs→rs.length=zs.length:=by
      intro ps
      induction ps with
      | nil=>intro zs rs h;obtain rfl:=Option.some.inj h;rfl
      | cons p ps ih =>
       intro zs rs h
       obtain ⟨k,ls⟩:=p
       simp only [fillL] at h
       split at h
       ·rw [ih _ _ h,setL_len]
       ·cases h
     rw [this ps _ rs hrs];simp
    refine ⟨.slice (some ⟨w.heap.size,0,none⟩) n n,w.alloc (.cells cs' e),?_,?_⟩
    ·unfold execOp;rw [ho]
     have hnot:¬ (16777216 < n * ie.size):=by omega
     by_cases h0:n * ie.size=0
     ·have hz:zero = #[]:=if_pos h0
      rw [hz] at g1
      have g1':Instr.fill (fun i=>some (i * ie.size,ie.size)) (Array.map (fun _=>(default:Value)) (Array.range 0)) (List.map (fun x=>(x.fst,a.eval x.snd)) parts.toList)=some cs':=by
       rw [← g1];simp [h0]
      simp [Instr.buildSlice,run_underlying (ht.el e hel),sizeOf_ok hte,h0,newRow]
      rw [g1'];simp
     ·have hz:zero=z.cells:=if_neg h0
      rw [hz] at g1
      simp [Instr.buildSlice,run_underlying (ht.el e hel),sizeOf_ok hte,h0,hnot,newRow,zeroValue,typeInfo,e1,e3]
      have g1':Instr.fill (fun i=>some (i * ie.size,ie.size)) (Array.map (fun x=>z.cells[x % z.cells.size]!) (Array.range (n * ie.size))) (List.map (fun x=>(x.fst,a.eval x.snd)) parts.toList)=some cs':=g1
      rw [g1'];simp
    ·refine R.newrowN h1 h2 h3 h4 h5 o.dst e ie.size (chunks ie.size n ys) n cs' (chunks_len _ _ _) (by rw [g2,← o1,hlen]) (chunks_row _ _ _ hlen) fun p r row x hp hr=>?_
     have hx:=chunks_get _ _ _ _ _ _ _ hp hr
     obtain ⟨y,hy,hyx⟩:=o2 _ _ hx
     rw [← h1]
     exact (g3 _ _ hy).ofAV hyx
   ·cases hd
  ·cases hd
 ·cases hd
theorem dopD_ok (h:R E st a w) {T:List (TypeId × TyI)} (hT:TysOk E.P T) {gl:List (Nat × Value)} (hgl:∀ p ∈ gl,p.2.oneCell'=true∧w.cell? ⟨p.1,0,none⟩=some p.2) {c:Prop} {r:AV} (hd:dopD T gl o.op st.ev (fun k=>lkm k st.m)=some (c,r)) (hc:c):Yields E o (st.put o.dst r) a w:=by
 unfold dopD at hd
 split at hd
 ·rename_i t n parts ho;exact op_buildSliceN h t n parts ho hT hd hc
 ·exact dop_ok h hT hgl hd hc
end
structure FS where
 nt:Nat
 σ:Nat→AV
 m:Nat→Option (List AV)
 rn:Nat
def St.fs (st:St):FS:=⟨st.nt,fun x=>lk x st.σ,fun k=>lkm k st.m,st.rn⟩
def FS.ev (s:FS):Operand→AV
 | .tmp t=>s.σ t
 | .const u=>AV.ofVal u
 | .global g=>.v (.pointer (some ⟨g,0,none⟩))
 | .func f=>.v (.func (.func f) #[] #[])
theorem fs_ev (st:St):st.fs.ev=st.ev:=by funext x;cases x<;>rfl
def FS.upd (s : FS) (dst : Option Nat) (r : AV) (k : Nat) : FS :=
  { s with σ := (match dst with | some d => if d < s.nt then fun x => if x = d then r else s.σ x else s.σ | none => s.σ), rn := s.rn + k }

theorem fs_put (st:St) (dst:Option Nat) (r:AV) (k:Nat):St.fs { (st.put dst r) with rn:=st.rn + k }=st.fs.upd dst r k:=by
 unfold St.fs FS.upd St.put
 cases dst with
 | none=>rfl
 | some d =>
  simp only
  split
  ·simp only [lk]
  ·rfl
theorem fs_put0 (st:St) (dst:Option Nat) (r:AV):(st.put dst r).fs=st.fs.upd dst r 0:=by
 rw [← fs_put];congr 1
 unfold St.put;split<;>try split
 all_goals rfl
theorem eqv_of_fs {a b:St} (h:a.fs=b.fs):Eqv a b:=by
 unfold St.fs at h
 injection h with h1 h2 h3 h4
 exact ⟨h1.symm,h4.symm,fun x=>(congrFun h2 x).symm,fun k=>(congrFun h3 k).symm⟩
theorem upd_comm (s:FS) (x y:Option Nat) (r r':AV) (k k':Nat) (h:∀ d,x=some d→y≠some d):(s.upd x r k).upd y r' k'=(s.upd y r' k').upd x r k:=by
 unfold FS.upd
 cases x with
 | none=>cases y<;>simp [Nat.add_right_comm]
 | some d =>
  cases y with
  | none=>simp [Nat.add_right_comm]
  | some e =>
   have hne:d≠e:=fun he=>h d rfl (he ▸ rfl)
   simp only [Nat.add_right_comm]
   congr 1
   split<;>split<;>try rfl
   funext z
   by_cases h1:z=d
   ·subst h1;rw [if_neg hne];simp
   ·simp [h1]
/- what an operation of such a region yields -/
structure Res where
 c:Prop
 p:AV→Prop
 k:Nat
 d:Bool
def argsF (ev:Operand→AV):List Operand→List AV
 | []=>[]
 | x::l=>(ev x).er::argsF ev l
theorem argsF_eq (st:St):∀ l,argsF st.ev l=argsE st l
 | []=>rfl
 | x::l=>by simp only [argsF,argsE,argsF_eq st l]
def dres (tb:Tb) (o:Op) (ev:Operand→AV) (m:Nat→Option (List AV)):Option Res :=
 match dopD tb.T tb.gl o ev m with
 | some (c,x)=>some ⟨c,fun y=>y=x,0,false⟩
 | none=>none
def ck (tb:Tb) (f:FuncId):Option Con:=match dk f tb.D with | some d=>some d.con | none=>gk f tb.G
theorem ck_ok {E:En} {tb:Tb} (h:TbOk E tb) {f:FuncId} {C:Con} (hf:ck tb f=some C):(Callable E.P f∧Valid E.P f C)∧∀ w,GrownL E.w0 w (if E.draws then some E.g else none) E.L→C.inv w:=by
 unfold ck at hf
 split at hf
 ·rename_i d hd;obtain rfl:=Option.some.inj hf;exact h.det hd
 ·exact h.get hf
def fres (tb:Tb) (o:Op) (ev:Operand→AV) (m:Nat→Option (List AV)):Option Res :=
 match o with
 | .call c=>match c.callee with
  | .value fo=>match fnOf (ev fo) with
   | some f=>match ck tb f with
    | some C=>some ⟨C.pre (argsF ev c.args.toList),fun y=>∃ r,C.post (argsF ev c.args.toList) r∧y=r.er,C.cost,C.draws⟩
    | none=>none
   | none=>none
  | .invoke xo name=>match ifcOf (ev xo) with
   | some (t,u)=>match mk t tb.M with
    | some (s,f)=>match ck tb f with
     | some C=>some ⟨s=name∧C.pre (u::argsF ev c.args.toList),fun y=>∃ r,C.post (u::argsF ev c.args.toList) r∧y=r.er,C.cost,C.draws⟩
     | none=>none
    | none=>none
   | none=>none
  | _=>dres tb o ev m
 | _=>dres tb o ev m
def gres (tb:Tb) (ops:Array Oper) (o:Oper) (s:FS):Option Res :=
 match o.guard with
 | none=>fres tb o.op s.ev s.m
 | some (j,want)=>match (ops[j]?).bind (·.dst) with
  | some d=>match s.σ d with
   | .v (.bool b)=>if d < s.nt then (if b=want then fres tb o.op s.ev s.m else some ⟨True,fun y=>y = .tup [],0,false⟩) else none
   | .tup []=>some ⟨True,fun y=>y = .tup [],0,false⟩
   | _=>none
  | none=>none
def fsem (tb:Tb) (ops:Array Oper) (o:Oper) (s:FS) (K:FS→Prop):Prop :=
 ∃ q,gres tb ops o s=some q∧q.c∧(∃ x,q.p x)∧(q.d=true→tb.draws=true∧s.rn + q.k≤lim)∧∀ x,q.p x→K (s.upd o.dst x q.k)
def isAp:Op→Bool
 | .store _ _ _=>true
 | .call c=>match c.callee with | .builtin .append=>true | _=>false
 | _=>false
def isTop:Op→Bool
 | .store _ _ _=>true
 | .call c=>match c.callee with | .builtin .append=>true | .builtin .copy=>true | .builtin .clear=>true | _=>false
 | .alloc _=>true
 | .box _ _=>true
 | .makeSlice _ _ _=>true
 | _=>false
def isAT (o:Oper):Bool:=o.guard.isNone && isAp o.op
def isT (o:Oper):Bool:=o.guard.isNone && isTop o.op
def isFA (o:Oper):Bool:=o.guard.isNone && (match o.op with | .fieldAddr _ _ _=>true | _=>false)
def isCall (o:Oper):Bool:=match o.op with | .call c=>(match c.callee with | .value _=>true | .invoke _ _=>true | _=>false) | _=>false
def noX (X:List Nat) (dst:Option Nat) (o:Op) (ev:Operand→AV):Bool:=match o with
 | .call c=>match c.callee with
  | .builtin .append=>(match c.args.toList with | x::_=>(xsOf (ev x)).isNone && !isNlX (ev x) dst X | []=>true)
  | _=>true
 | _=>true
theorem noX_congr {X:List Nat} {dst:Option Nat} {o:Op} {ev ev':Operand→AV} (h:∀ z ∈ o.operands,ev z=ev' z):noX X dst o ev=noX X dst o ev':=by
 unfold noX
 split
 ·rename_i c
  have hh:∀ z ∈ c.args.toList,ev z=ev' z:=fun z hz=>h z (by simp [Op.operands,Call.operands];exact .inr (by simpa using hz))
  split
  ·generalize c.args.toList=l at hh
   cases l with
   | nil=>rfl
   | cons x l=>simp only [hh x (by simp)]
  ·rfl
 ·rfl
def tsem (tb:Tb) (o:Oper) (s:FS) (K:FS→Prop):Prop:=∃ st:St,st.fs=s∧noX tb.X o.dst o.op st.ev=true∧stp tb o st fun st'=>K st'.fs
def osem (tb:Tb) (ops:Array Oper) (o:Oper) (s:FS) (K:FS→Prop):Prop :=
 if isT o then tsem tb o s K else fsem tb ops o s K
/- evaluation -/
def dcl (tb:Tb) (f:FuncId) (as:List AV) (st:St) (dst:Option Nat) (K:St→Prop):Prop :=
 match dk f tb.D with
 | some d=>match d.g as with
  | some (c,r)=>c∧K (st.put dst r.er)
  | none=>False
 | none=>match gk f tb.G with
  | some C=>(C.draws=true→tb.draws=true∧st.rn + C.cost≤lim)∧C.pre as∧(∃ r,C.post as r)∧∀ r,C.post as r→K (st.called dst { C with own:=false } r)
  | none=>False
def dstp (tb:Tb) (o:Oper) (st:St) (K:St→Prop):Prop :=
 match o.op with
 | .call c=>match c.callee with
  | .value fo=>match fnOf (st.ev fo) with
   | some f=>dcl tb f (argsE st c.args.toList) st o.dst K
   | none=>False
  | .invoke xo name=>match ifcOf (st.ev xo) with
   | some (t,u)=>match mk t tb.M with
    | some (s,f)=>s=name∧dcl tb f (u::argsE st c.args.toList) st o.dst K
    | none=>False
   | none=>False
  | _=>match dopD tb.T tb.gl o.op st.ev (fun k=>lkm k st.m) with
   | some (c,r)=>c∧K (st.put o.dst r)
   | none=>False
 | _=>match dopD tb.T tb.gl o.op st.ev (fun k=>lkm k st.m) with
  | some (c,r)=>c∧K (st.put o.dst r)
  | none=>False
def dstpG (tb:Tb) (ops:List Oper) (o:Oper) (st:St) (K:St→Prop):Prop :=
 match o.guard with
 | none=>match isTop o.op with
  | true=>noX tb.X o.dst o.op st.ev=true∧stp tb o st K
  | false=>dstp tb o st K
 | some (j,want)=>match ops[j]? with
  | some g=>match g.dst with
   | some d=>match lk d st.σ with
    | .v (.bool b)=>d < st.nt∧gs b (match want with | true=>dstp tb o (st.know d true) K | false=>K ((st.know d true).put o.dst (.tup [])))
      (match want with | true=>K ((st.know d false).put o.dst (.tup [])) | false=>dstp tb o (st.know d false) K)
    | .tup []=>K (st.put o.dst (.tup []))
    | _=>False
   | none=>False
  | none=>False
theorem stp_mono {tb:Tb} {o:Oper} {st:St} {K K':St→Prop} (hk:∀ st',K st'→K' st') (h:stp tb o st K):stp tb o st K':=by
 unfold stp at *
 repeat' split at h
 all_goals (try exact h.elim)
 all_goals (try (simp only [*,-h]))
 all_goals first
  | exact hk _ h
  | exact ⟨h.1,hk _ h.2⟩
  | exact ⟨h.1,h.2.1,fun r hr=>hk _ (h.2.2 r hr)⟩
  | exact callA_mono hk h
  | exact ⟨h.1,callA_mono hk h.2⟩
  | exact callM_mono hk h
  | exact callR_mono hk h
  | exact ⟨h.1,fun cap' hc=>hk _ (h.2 cap' hc)⟩
  | exact ⟨h.1,fun b r h1 h2=>hk _ (h.2 b r h1 h2)⟩
  | exact ⟨h.1,fun hc=>hk _ (h.2.1 hc),fun hc cap' hc'=>hk _ (h.2.2 hc cap' hc')⟩
  | exact ⟨h.1,fun hc=>hk _ (h.2.1 hc),fun j p hj hl=>hk _ (h.2.2 j p hj hl)⟩
theorem dcl_res {tb:Tb} {f:FuncId} {as:List AV} {st:St} {dst:Option Nat} {K:St→Prop} {K':FS→Prop} (hk:∀ st',K st'→K' st'.fs) (h:dcl tb f as st dst K) :
  ∃ C,ck tb f=some C∧C.pre as∧(∃ x,∃ r,C.post as r∧x=r.er)∧(C.draws=true→tb.draws=true∧st.fs.rn + C.cost≤lim)∧∀ x,(∃ r,C.post as r∧x=r.er)→K' (st.fs.upd dst x C.cost):=by
 unfold dcl at h
 unfold ck
 split at h
 ·rename_i d hd
  split at h
  ·rename_i c' r hg
   exact ⟨_,rfl,⟨c',r,hg,h.1⟩,⟨_,r,⟨c',hg⟩,rfl⟩,fun h=>(by cases h),fun x ⟨r',⟨c2,hr⟩,hx⟩=>by
    rw [hg] at hr
    obtain ⟨_,rfl⟩:=Prod.mk.inj (Option.some.inj hr)
    subst hx
    show K' (st.fs.upd dst r.er 0)
    rw [← fs_put0];exact hk _ h.2⟩
  ·exact h.elim
 ·split at h
  ·rename_i C hC
   obtain ⟨h1,h2,⟨r,h3⟩,h4⟩:=h
   have h4':∀ r,C.post as r→K { (st.put dst r.er) with rn:=st.rn + C.cost }:=fun r hr=>by
    have:=h4 r hr
    unfold St.called at this
    simpa using this
   exact ⟨C,hC,h2,⟨_,r,h3,rfl⟩,h1,fun x ⟨r,hr,hx⟩=>by subst hx;rw [← fs_put];exact hk _ (h4' r hr)⟩
  ·exact h.elim
theorem dstp_fres {tb : Tb} {o : Oper} {st : St} {K : St → Prop} {K' : FS → Prop} (hk : ∀ st', K st' → K' st'.fs) (h : dstp tb o st K) :
    ∃ q, fres tb o.op st.fs.ev st.fs.m = some q ∧ q.c ∧ (∃ x, q.p x) ∧ (q.d = true → tb.draws = true ∧ st.fs.rn + q.k ≤ lim) ∧ ∀ x, q.p x → K' (st.fs.upd o.dst x q.k) := by
  rw [fs_ev]
  have hd : (match dopD tb.T tb.gl o.op st.ev (fun k => lkm k st.m) with | some (c, r) => c ∧ K (st.put o.dst r) | none => False) → ∃ q, dres tb o.op st.ev st.fs.m = some q ∧ q.c ∧ (∃ x, q.p x) ∧ (q.d = true → tb.draws = true ∧ st.fs.rn + q.k ≤ lim) ∧ ∀ x, q.p x → K' (st.fs.upd o.dst x q.k) := by
    intro h
    unfold dres
    split at h
    · rename_i c r hd
      have hd' : dopD tb.T tb.gl o.op st.ev st.fs.m = some (c, r) := hd
      rw [hd']
      exact ⟨_, rfl, h.1, ⟨r, rfl⟩, fun h => (by cases h), fun x hx => by cases hx; rw [← fs_put0]; exact hk _ h.2⟩
    · exact h.elim
  unfold dstp at h
  unfold fres
  split at h
  · rename_i c ho
    rw [ho] at hd ⊢
    split at h
    · rename_i fo hc
      split at h
      · rename_i f hf
        obtain ⟨C, h1, h2, h3, h4, h5⟩ := dcl_res hk h
        rw [h1]
        rw [argsF_eq]
        exact ⟨_, rfl, h2, h3, h4, h5⟩
      · exact h.elim
    · rename_i xo name hc
      split at h
      · rename_i t u hf
        split at h
        · rename_i s f hm
          obtain ⟨h0, h⟩ := h
          obtain ⟨C, h1, h2, h3, h4, h5⟩ := dcl_res hk h
          simp only [hm, h1]
          rw [argsF_eq]
          exact ⟨_, rfl, ⟨h0, h2⟩, h3, h4, h5⟩
        · exact h.elim
      · exact h.elim
    · rename_i hc1 hc2
      rw [ho] at h
      first
        | exact hd h
        | (split
           · rename_i fo hfo; exact absurd hfo (hc1 fo)
           · rename_i xo nm hfo; exact absurd hfo (hc2 xo nm)
           · exact hd h)
  · rename_i hc
    first
      | exact hd h
      | (split
         · rename_i c ho; exact absurd ho (hc c)
         · exact hd h)

theorem dstpG_osem {tb:Tb} {ops:List Oper} {o:Oper} {st:St} {K:St→Prop} {K':FS→Prop} (hk:∀ st',K st'→K' st'.fs) (h:dstpG tb ops o st K):osem tb ops.toArray o st.fs K':=by
 unfold dstpG at h
 unfold osem isT
 split at h
 ·rename_i hg
  rw [hg]
  cases ht:isTop o.op with
  | true =>
   rw [ht] at h
   simp only [Option.isNone_none,Bool.and_self,if_true]
   exact ⟨st,rfl,h.1,stp_mono hk h.2⟩
  | false =>
   rw [ht] at h
   simp only [Option.isNone_none,Bool.and_false,Bool.false_eq_true,if_false]
   unfold fsem gres
   rw [hg]
   exact dstp_fres hk h
 ·rename_i j want hg
  rw [hg]
  simp only [Option.isNone_some,Bool.false_and,Bool.false_eq_true,if_false]
  unfold fsem gres
  rw [hg]
  split at h
  ·rename_i g hgj
   split at h
   ·rename_i d hd
    have e:(ops.toArray[j]?).bind (·.dst)=some d:=by simp [hgj,hd]
    simp only [e]
    have hfs:∀ v,lk d st.σ = .v (.bool v)→(st.know d v).fs=st.fs:=fun v hv=>by
     have e:(fun x=>lk x (st.know d v).σ)=(fun x=>lk x st.σ):=funext fun x=>lk_know hv x
     show FS.mk st.nt _ _ st.rn=FS.mk st.nt _ _ st.rn
     rw [e];rfl
    have hp:∀ st1:St,st1.fs=st.fs→K (st1.put o.dst (.tup []))→∃ q,(some ⟨True,fun y=>y = .tup [],0,false⟩:Option Res)=some q∧q.c∧(∃ x,q.p x)∧(q.d=true→tb.draws=true∧st.fs.rn + q.k≤lim)∧∀ x,q.p x→K' (st.fs.upd o.dst x q.k):=fun st1 hf h=>⟨_,rfl,trivial,⟨_,rfl⟩,fun h=>(by cases h),fun x hx=>by cases hx;rw [← hf,← fs_put0];exact hk _ h⟩
    split at h
    ·rename_i b hlk
     have hlk':st.fs.σ d = .v (.bool b):=hlk
     obtain ⟨hlt,h0⟩:=h
     have h1:b=want→dstp tb o (st.know d want) K:=fun e=>by subst e;cases b<;>simpa [gs] using h0
     have h2:b = !want→K ((st.know d (!want)).put o.dst (.tup [])):=fun e=>by subst e;cases want<;>simpa [gs] using h0
     have hlt':d < st.fs.nt:=hlt
     simp only [hlk',if_pos hlt']
     by_cases hb:b=want
     ·rw [if_pos hb]
      have:=dstp_fres hk (h1 hb)
      rw [hfs want (by rw [hlk,hb])] at this
      exact this
     ·rw [if_neg hb]
      have hb':b = !want:=by cases b<;>cases want<;>simp_all
      exact hp _ (hfs _ (by rw [hlk,hb'])) (h2 hb')
    ·rename_i hlk
     have hlk':st.fs.σ d = .tup []:=hlk
     simp only [hlk']
     exact hp st rfl h
    ·exact h.elim
   ·exact h.elim
  ·exact h.elim
theorem partsE_congr {ev ev':Operand→AV}:∀ l:List (Nat × Operand),(∀ p ∈ l,ev p.2=ev' p.2)→dop.partsE ev l=dop.partsE ev' l
 | [],_=>rfl
 | (k,x)::l,h=>by
  have h1:=h (k,x) (by simp)
  simp only at h1
  simp only [dop.partsE,h1,partsE_congr l (fun p hp=>h p (by simp [hp]))]
theorem argsF_congr {ev ev':Operand→AV}:∀ l:List Operand,(∀ x ∈ l,ev x=ev' x)→argsF ev l=argsF ev' l
 | [],_=>rfl
 | x::l,h=>by simp only [argsF,h x (by simp),argsF_congr l (fun p hp=>h p (by simp [hp]))]
theorem dop_congr (T:List (TypeId × TyI)) (gl:List (Nat × Value)) (o:Op) {ev ev':Operand→AV} (m:Nat→Option (List AV)) (h:∀ x ∈ o.operands,ev x=ev' x):dop T gl o ev m=dop T gl o ev' m:=by
 cases o
 case call c =>
  obtain ⟨callee,args,ats⟩:=c
  simp only [dop]
  cases callee<;>try rfl
  rename_i b
  cases b<;>try rfl
  all_goals
   have hh:∀ x ∈ args.toList,ev x=ev' x:=fun x hx=>h x (by simp [Op.operands,Call.operands];simpa using hx)
   generalize args.toList=l at hh ⊢
   match l,hh with
   | [],_=>rfl
   | [x],hh =>
    have e:=hh x (by simp)
    generalize ats.toList=l2
    match l2 with
    | []=>rfl
    | [t]=>simp only [e]
    | _::_::_=>rfl
   | _::_::_,_=>rfl
 case slice t x lo hi mx =>
  have hx:=h x (by simp [Op.operands])
  cases mx<;>cases lo<;>cases hi<;>simp only [dop,hx,bnd]
  ·rename_i y;have hy:=h y (by simp [Op.operands]);simp only [hy]
  ·rename_i y;have hy:=h y (by simp [Op.operands]);simp only [hy]
  ·rename_i y z;have hy:=h y (by simp [Op.operands]);have hz:=h z (by simp [Op.operands]);simp only [hy,hz]
  ·rename_i q y z;have hq:=h q (by simp [Op.operands]);have hy:=h y (by simp [Op.operands]);have hz:=h z (by simp [Op.operands]);simp only [hy,hz,hq]
 case build t ps =>
  simp only [dop,partsE_congr ps.toList fun p hp=>h p.2 (by simp [Op.operands];exact ⟨p.1,by simpa using hp⟩)]
 case binOp op t x y t' =>
  have hx:=h x (by simp [Op.operands])
  have hy:=h y (by simp [Op.operands])
  cases y with
  | const v=>cases v<;>first | (simp only [dop,hx,hy];done) | (rename_i p;cases p<;>simp only [dop,hx,hy])
  | _=>simp only [dop,hx,hy]
 case unOp op t x=>have hx:=h x (by simp [Op.operands]);cases op<;>simp only [dop,hx]
 all_goals first
  | rfl
  | (rename_i x;have hx:=h x (by simp [Op.operands]);simp only [dop,hx];done)
  | (rename_i x y;have hx:=h x (by simp [Op.operands]);simp only [dop,hx];done)
  | (rename_i x y;have hy:=h y (by simp [Op.operands]);simp only [dop,hy];done)
  | (rename_i x y z;have hx:=h x (by simp [Op.operands]);have hy:=h y (by simp [Op.operands]);simp only [dop,hx,hy];done)
  | (rename_i x y z;have hx:=h y (by simp [Op.operands]);have hy:=h z (by simp [Op.operands]);simp only [dop,hx,hy];done)
  | (rename_i x y z;have hx:=h x (by simp [Op.operands]);have hy:=h y (by simp [Op.operands]);have hz:=h z (by simp [Op.operands]);simp only [dop,hx,hy,hz];done)
theorem fres_congr (tb:Tb) (o:Op) {ev ev':Operand→AV} (m:Nat→Option (List AV)) (h:∀ x ∈ o.operands,ev x=ev' x):fres tb o ev m=fres tb o ev' m:=by
 have hd:dres tb o ev m=dres tb o ev' m:=by
  have e:dopD tb.T tb.gl o ev m=dopD tb.T tb.gl o ev' m:=by
   cases o
   case buildSlice t n parts=>simp only [dopD,bsl,partsE_congr parts.toList fun p hp=>h p.2 (by simp [Op.operands];exact ⟨p.1,by simpa using hp⟩)]
   all_goals exact dop_congr tb.T tb.gl _ m h
  unfold dres
  rw [e]
 unfold fres
 split
 ·rename_i c
  split
  ·rename_i fo hc
   rw [h fo (by simp [Op.operands,Call.operands,hc]),argsF_congr c.args.toList fun x hx=>h x (by simp [Op.operands,Call.operands];exact .inr (by simpa using hx))]
  ·rename_i xo nm hc
   rw [h xo (by simp [Op.operands,Call.operands,hc]),argsF_congr c.args.toList fun x hx=>h x (by simp [Op.operands,Call.operands];exact .inr (by simpa using hx))]
  ·exact hd
 ·exact hd
theorem upd_ev {s:FS} {dst:Option Nat} {r:AV} {k:Nat} {x:Operand} (h:∀ d,dst=some d→x≠.tmp d):(s.upd dst r k).ev x=s.ev x:=by
 cases dst with
 | none=>cases x<;>rfl
 | some d =>
  cases x with
  | tmp t =>
   have hne:t≠d:=fun e=>h d rfl (e ▸ rfl)
   simp only [FS.ev,FS.upd]
   split
   ·exact if_neg hne
   ·rfl
  | _=>rfl
theorem looksAt_op {ops:Array Oper} {o:Oper} {d:Nat} (h:d ∉ o.looksAt ops):∀ x ∈ o.op.operands,x≠.tmp d:=fun x hx e=>h (by
 subst e
 exact List.mem_append_left _ (List.mem_filterMap.2 ⟨.tmp d,by simpa using hx,rfl⟩))
theorem gres_upd {tb:Tb} {ops:Array Oper} {o:Oper} {s:FS} {dst:Option Nat} {r:AV} {k:Nat} (h:∀ d,dst=some d→d ∉ o.looksAt ops):gres tb ops o (s.upd dst r k)=gres tb ops o s:=by
 have hf:fres tb o.op (s.upd dst r k).ev (s.upd dst r k).m=fres tb o.op s.ev s.m:=fres_congr tb o.op s.m fun x hx=>upd_ev fun d hd=>looksAt_op (h d hd) x hx
 unfold gres
 rw [hf]
 cases hg:o.guard with
 | none=>rfl
 | some jw =>
  obtain ⟨j,want⟩:=jw
  simp only
  cases hb:(ops[j]?).bind (·.dst) with
  | none=>rfl
  | some d =>
   have:(s.upd dst r k).σ d=s.σ d:=by
    have:=upd_ev (s:=s) (dst:=dst) (r:=r) (k:=k) (x:=.tmp d) fun e he hh=>by
     injection hh with hh;subst hh
     exact h _ he (by simp [Oper.looksAt,hg,hb])
    exact this
   simp only [this]
   rfl
theorem gres_call {tb:Tb} {ops:Array Oper} {o:Oper} {s:FS} {q:Res} (h:gres tb ops o s=some q) (hc:isCall o=false):q.k=0∧q.d=false:=by
 have hd:∀ q,dres tb o.op s.ev s.m=some q→q.k=0∧q.d=false:=fun q h=>by
  unfold dres at h
  split at h
  ·obtain rfl:=Option.some.inj h;exact ⟨rfl,rfl⟩
  ·cases h
 have hf:∀ q,fres tb o.op s.ev s.m=some q→q.k=0∧q.d=false:=fun q h=>by
  unfold fres at h
  split at h
  ·rename_i c ho
   split at h
   ·rename_i fo hfo
    simp [isCall,ho,hfo] at hc
   ·rename_i xo nm hfo
    simp [isCall,ho,hfo] at hc
   ·exact hd q h
  ·exact hd q h
 unfold gres at h
 split at h
 ·exact hf q h
 ·split at h
  ·split at h
   ·split at h
    ·split at h
     ·exact hf q h
     ·obtain rfl:=Option.some.inj h;exact ⟨rfl,rfl⟩
    ·cases h
   ·obtain rfl:=Option.some.inj h;exact ⟨rfl,rfl⟩
   ·cases h
  ·cases h
theorem fswap {tb:Tb} {ops:Array Oper} {x y:Oper} {s:FS} {K:FS→Prop} (hap:Oper.apart ops x y=true) (hc:(isCall x && isCall y)=false)
  (h:fsem tb ops x s fun s'=>fsem tb ops y s' K):fsem tb ops y s fun s'=>fsem tb ops x s' K:=by
 obtain ⟨a1,a2,a3⟩:=Oper.apart_spec hap
 obtain ⟨q,h1,h2,⟨r0,h3⟩,h4,h5⟩:=h
 obtain ⟨q',g1,g2,g3,g4,_⟩:=h5 r0 h3
 rw [gres_upd a1] at g1
 refine ⟨q',g1,g2,g3,fun hd=>⟨(g4 hd).1,?_⟩,fun x' hx'=>⟨q,by rw [gres_upd a3];exact h1,h2,⟨r0,h3⟩,fun hd=>⟨(h4 hd).1,?_⟩,fun x'' hx''=>?_⟩⟩
 ·have:=(g4 hd).2
  have e:(s.upd x.dst r0 q.k).rn=s.rn + q.k:=rfl
  omega
 ·have:=(h4 hd).2
  show s.rn + q'.k + q.k≤lim
  cases hx:isCall x with
  | true =>
   rw [hx] at hc
   have:=(gres_call g1 (by simpa using hc)).1
   omega
  | false =>
   have:=(gres_call h1 hx).2
   rw [this] at hd;cases hd
 ·obtain ⟨q2,k1,_,_,_,k5⟩:=h5 x'' hx''
  rw [gres_upd a1,g1] at k1
  obtain rfl:=Option.some.inj k1
  rw [← upd_comm _ _ _ _ _ _ _ a2]
  exact k5 x' hx'
theorem put_ev {st:St} {dst:Option Nat} {r:AV} {x:Operand} (h:∀ d,dst=some d→x≠.tmp d):(st.put dst r).ev x=st.ev x:=by
 rw [← fs_ev,← fs_ev,fs_put0];exact upd_ev h
theorem put_nt (st:St) (dst:Option Nat) (r:AV):(st.put dst r).nt=st.nt:=by
 unfold St.put;split<;>try split
 all_goals rfl
structure TT (x:Oper) (st n:St):Prop where
 nt:n.nt=st.nt
 σ:∀ z,x.dst≠some z→lk z n.σ=lk z st.σ∨∃ a b,lk z n.σ=((lk z st.σ).strip a).strip b
theorem fs_upd_of {a b:St} {dst:Option Nat} (h1:a.nt=b.nt) (h2:a.rn=b.rn) (h3:∀ k,lkm k a.m=lkm k b.m) (h4:∀ z,dst≠some z→lk z a.σ=lk z b.σ) (h5:∀ d,dst=some d→¬ d < b.nt→lk d a.σ=lk d b.σ) (r:AV):a.fs.upd dst r 0=b.fs.upd dst r 0:=by
 have e3:a.fs.m=b.fs.m:=funext h3
 cases dst with
 | none =>
  have e4:a.fs.σ=b.fs.σ:=funext fun z=>h4 z (by simp)
  simp only [FS.upd,e4,e3]
  show FS.mk a.nt _ _ _=FS.mk b.nt _ _ _
  rw [h1,show a.fs.rn=b.fs.rn from h2]
 | some d =>
  by_cases hd:d < b.nt
  ·have hd':d < a.nt:=by omega
   simp only [FS.upd,e3]
   rw [if_pos (show d < a.fs.nt from hd'),if_pos (show d < b.fs.nt from hd)]
   rw [show a.fs.nt=b.fs.nt from h1,show a.fs.rn=b.fs.rn from h2]
   congr 1
   funext z
   by_cases hz:z=d
   ·simp [hz]
   ·simp only [if_neg hz];exact h4 z (fun e=>hz (Option.some.inj e).symm)
  ·have hd':¬ d < a.nt:=by omega
   simp only [FS.upd,e3]
   rw [if_neg (show ¬ d < a.fs.nt from hd'),if_neg (show ¬ d < b.fs.nt from hd)]
   rw [show a.fs.nt=b.fs.nt from h1,show a.fs.rn=b.fs.rn from h2]
   congr 1
   funext z
   by_cases hz:z=d
   ·subst hz;exact h5 _ rfl hd
   ·exact h4 z (fun e=>hz (Option.some.inj e).symm)
theorem lk_put (z:Nat) (st:St) (dst:Option Nat) (r:AV):lk z (st.put dst r).σ=match dst with | some d=>if d < st.nt∧z=d then r else lk z st.σ | none=>lk z st.σ:=by
 cases dst with
 | none=>rfl
 | some d =>
  simp only [St.put]
  by_cases h:d < st.nt
  ·simp only [h,if_true,lk,true_and]
  ·simp only [h,if_false,false_and]
theorem stp_put {tb:Tb} {ops:Array Oper} {x:Oper} {st:St} {K:St→Prop} {dst:Option Nat} {r:AV} (ht:isAp x.op=true) (hl:∀ d,dst=some d→d ∉ x.looksAt ops) (hd:∀ d,dst=some d→x.dst≠some d) (hx:noX tb.X x.dst x.op st.ev=true)
  (h:stp tb x st K):stp tb x (st.put dst r) fun n=>∃ n0,K n0∧TT x st n0∧TT x (st.put dst r) n∧∀ r',n.fs.upd dst r' 0=n0.fs.upd dst r' 0:=by
 have hev:∀ z ∈ x.op.operands,(st.put dst r).ev z=st.ev z:=fun z hz=>put_ev fun d e=>looksAt_op (hl d e) z hz
 unfold stp at h ⊢
 match ho:x.op,ht with
 | .store t a b,_ =>
  rw [ho] at h hev
  simp only at h ⊢
  rw [hev a (by simp [Op.operands]),hev b (by simp [Op.operands]),put_m]
  split at h
  ·rename_i d off i xs hxd hx hi hy
   split at h
   ·rename_i ls hls
    try simp only [hxd,hls]
    refine ⟨h.1,_,h.2,⟨rfl,fun z _=>.inl rfl⟩,⟨rfl,fun z _=>.inl rfl⟩,fun r'=>fs_upd_of (a:={ (st.put dst r) with m:=repm d (setL ls off xs) st.m }) (b:={ st with m:=repm d (setL ls off xs) st.m }) (put_nt _ _ _) (put_rn _ _ _) (fun k=>rfl) (fun z hz=>?_) (fun d' e hn=>?_) r'⟩
    ·show lk z (st.put dst r).σ=lk z st.σ
     rw [lk_put]
     cases dst with
     | none=>rfl
     | some e=>simp only;rw [if_neg (fun hh=>hz (by rw [hh.2]))]
    ·show lk d' (st.put dst r).σ=lk d' st.σ
     rw [lk_put,e];simp only;rw [if_neg (fun hh=>hn hh.1)]
   ·exact h.elim
  ·exact h.elim
 | .call c,ht =>
  obtain ⟨callee,args,ats⟩:=c
  rw [ho] at h hev
  match callee,ht with
  | .builtin .append,_ =>
   simp only at h ⊢
   have hh:∀ z ∈ args.toList,(st.put dst r).ev z=st.ev z:=fun z hz=>hev z (by simp [Op.operands,Call.operands];simpa using hz)
   rw [ho] at hx
   simp only [noX] at hx
   generalize args.toList=l at h hh hx ⊢
   split at h
   ·rename_i p q t t' ha
    simp only at hx
    simp only [hh p (by simp),hh q (by simp)]
    simp only [Bool.and_eq_true,Bool.not_eq_true'] at hx
    have hx2:=hx.2
    have hx:xsOf (st.ev p)=none:=by simpa using hx.1
    simp only [hx,hx2] at h ⊢
    split at h
    ·rename_i d e ie hxd he
     try simp only [hxd]
     split at h
     ·rename_i s els ys hown hys
      try simp only [hown,hys]
      have tt:∀ st:St,TT x st ((st.strip2 s d).put (some d) (.sl (some (d,0,e)) (els++ys))):=fun st=>⟨by rw [put_nt,strip2_nt],fun z hz=>by
       rw [lk_put]
       simp only
       rw [if_neg (fun hh=>hz (by rw [hxd,hh.2])),strip2_σ,lk_strip,lk_strip]
       exact .inr ⟨s,d,rfl⟩⟩
      refine ⟨h.1,_,h.2,tt st,tt _,fun r'=>fs_upd_of ?_ ?_ (fun k=>?_) (fun z hz=>?_) (fun d' e' hn=>?_) r'⟩
      ·rw [put_nt,put_nt,strip2_nt,strip2_nt,put_nt]
      ·rw [put_rn,put_rn,strip2_rn,strip2_rn,put_rn]
      ·rw [put_m,put_m,strip2_m,strip2_m,put_m]
      ·rw [lk_put,lk_put]
       simp only [strip2_σ,strip2_nt,put_nt]
       split
       ·rfl
       ·rw [lk_strip,lk_strip,lk_strip,lk_strip,lk_put]
        cases dst with
        | none=>rfl
        | some e=>simp only;rw [if_neg (fun hh=>hz (by rw [hh.2]))]
      ·rw [put_nt,strip2_nt] at hn
       rw [lk_put,lk_put]
       simp only [strip2_σ,strip2_nt,put_nt]
       split
       ·rfl
       ·rw [lk_strip,lk_strip,lk_strip,lk_strip,lk_put,e']
        simp only;rw [if_neg (fun hh=>hn hh.1)]
     ·exact h.elim
    ·exact h.elim
   ·exact h.elim
theorem gres_fa {tb:Tb} {ops:Array Oper} {y:Oper} {s:FS} {q:Res} (hy:isFA y=true) (h:gres tb ops y s=some q) :
  ∃ t o k off fi r,y.op = .fieldAddr t o k∧fld tb.T t k=some (off,fi)∧q=⟨0 < fi.size,fun z=>z=r,0,false⟩∧((∃ d n,s.ev o = .loc d n∧r = .loc d (n + off))∨∃ ls,s.ev o = .el ls∧r = .el (ls.drop off)):=by
 simp only [isFA,Bool.and_eq_true,Option.isNone_iff_eq_none] at hy
 obtain ⟨hg,ho⟩:=hy
 match hop:y.op,ho with
 | .fieldAddr t o k,_ =>
  unfold gres at h
  rw [hg,hop] at h
  simp only [fres,dres,dopD,dop] at h
  split at h
  ·rename_i c x hx
   obtain rfl:=Option.some.inj h
   split at hx
   ·rename_i d n off fi he hf
    obtain ⟨rfl,rfl⟩:=Prod.mk.inj (Option.some.inj hx)
    exact ⟨t,o,k,off,fi,_,rfl,hf,rfl,.inl ⟨d,n,he,rfl⟩⟩
   ·rename_i ls off fi he hf
    obtain ⟨rfl,rfl⟩:=Prod.mk.inj (Option.some.inj hx)
    exact ⟨t,o,k,off,fi,_,rfl,hf,rfl,.inr ⟨ls,he,rfl⟩⟩
   ·cases hx
  ·cases h
theorem gres_fa' {tb:Tb} {ops:Array Oper} {y:Oper} {s:FS} {t:TypeId} {o:Operand} {k off:Nat} {fi:TyI} {r:AV} (hy:isFA y=true) (hop:y.op = .fieldAddr t o k) (hf:fld tb.T t k=some (off,fi))
  (h:(∃ d n,s.ev o = .loc d n∧r = .loc d (n + off))∨∃ ls,s.ev o = .el ls∧r = .el (ls.drop off)):gres tb ops y s=some ⟨0 < fi.size,fun z=>z=r,0,false⟩:=by
 simp only [isFA,Bool.and_eq_true,Option.isNone_iff_eq_none] at hy
 unfold gres
 rw [hy.1,hop]
 simp only [fres,dres,dopD,dop]
 rcases h with ⟨d,n,h1,rfl⟩ | ⟨ls,h1,rfl⟩
 ·rw [h1,hf]
 ·rw [h1,hf]
theorem strip_loc {x:AV} {d k n:Nat}:x.strip d = .loc k n↔x = .loc k n:=by cases x<;>simp [AV.strip]
theorem strip_el {x:AV} {d:Nat} {ls:List DV}:x.strip d = .el ls↔x = .el ls:=by cases x<;>simp [AV.strip]
theorem TT.ev {x:Oper} {st n:St} (h:TT x st n) {o:Operand} (ho:∀ d,x.dst=some d→o≠.tmp d):n.ev o=st.ev o∨∃ a b,n.ev o=((st.ev o).strip a).strip b:=by
 cases o with
 | tmp t=>exact h.σ t fun e=>ho t e rfl
 | const v=>exact .inl rfl
 | global g=>exact .inl rfl
 | func f=>exact .inl rfl
theorem TT.loc {x:Oper} {st n:St} (h:TT x st n) {o:Operand} (ho:∀ d,x.dst=some d→o≠.tmp d) {k m:Nat}:n.ev o = .loc k m↔st.ev o = .loc k m:=by
 rcases h.ev ho with e | ⟨a,b,e⟩
 ·rw [e]
 ·rw [e,strip_loc,strip_loc]
theorem TT.el {x:Oper} {st n:St} (h:TT x st n) {o:Operand} (ho:∀ d,x.dst=some d→o≠.tmp d) {ls:List DV}:n.ev o = .el ls↔st.ev o = .el ls:=by
 rcases h.ev ho with e | ⟨a,b,e⟩
 ·rw [e]
 ·rw [e,strip_el,strip_el]
theorem gres_TT {tb:Tb} {ops:Array Oper} {x y:Oper} {st n:St} (hy:isFA y=true) (h:TT x st n) (hl:∀ d,x.dst=some d→d ∉ y.looksAt ops) {q:Res}:gres tb ops y n.fs=some q↔gres tb ops y st.fs=some q:=by
 constructor
 ·intro hq
  obtain ⟨t,o,k,off,fi,r,h1,h2,rfl,h4⟩:=gres_fa hy hq
  have ho:∀ d,x.dst=some d→o≠.tmp d:=fun d e=>looksAt_op (hl d e) o (by simp [h1,Op.operands])
  refine gres_fa' hy h1 h2 ?_
  rw [fs_ev] at h4 ⊢
  simpa only [h.loc ho,h.el ho] using h4
 ·intro hq
  obtain ⟨t,o,k,off,fi,r,h1,h2,rfl,h4⟩:=gres_fa hy hq
  have ho:∀ d,x.dst=some d→o≠.tmp d:=fun d e=>looksAt_op (hl d e) o (by simp [h1,Op.operands])
  refine gres_fa' hy h1 h2 ?_
  rw [fs_ev] at h4 ⊢
  simpa only [h.loc ho,h.el ho] using h4
theorem TT.stable {x:Oper} {st n:St} (h:TT x st n) {d:Nat} (hd:x.dst≠some d) {r:AV} (hr:∀ a b,(r.strip a).strip b=r) (e:lk d st.σ=r):n.fs.σ d=r:=by
 show lk d n.σ=r
 rcases h.σ d hd with e2 | ⟨a,b,e2⟩
 ·rw [e2,e]
 ·rw [e2,e,hr]
theorem upd_self {s:FS} {dst:Option Nat} {r:AV} (h:∀ d,dst=some d→d < s.nt→s.σ d=r):s.upd dst r 0=s:=by
 cases dst with
 | none=>rfl
 | some d =>
  unfold FS.upd
  simp only
  by_cases hd:d < s.nt
  ·rw [if_pos hd]
   have:(fun x=>if x=d then r else s.σ x)=s.σ:=by
    funext x;by_cases hx:x=d
    ·subst hx;rw [if_pos rfl,h _ rfl hd]
    ·rw [if_neg hx]
   rw [this];rfl
  ·rw [if_neg hd];rfl
theorem stp_wit {tb:Tb} {x:Oper} {st:St} {K:St→Prop} (ht:isAp x.op=true) (hx:noX tb.X x.dst x.op st.ev=true) (h:stp tb x st K):∃ n,K n:=by
 unfold stp at h
 match ho:x.op,ht with
 | .store t a b,_ =>
  rw [ho] at h
  simp only at h
  split at h
  ·split at h
   ·exact ⟨_,h.2⟩
   ·exact h.elim
  ·exact h.elim
 | .call c,ht =>
  obtain ⟨callee,args,ats⟩:=c
  rw [ho] at h
  match callee,ht with
  | .builtin .append,_ =>
   simp only at h
   rw [ho] at hx
   simp only [noX] at hx
   split at h
   ·rename_i p q t t' hl _
    simp only [hl] at hx
    simp only [Bool.and_eq_true,Bool.not_eq_true'] at hx
    have hx2:=hx.2
    have hx:xsOf (st.ev p)=none:=by simpa using hx.1
    simp only [hx,hx2] at h
    split at h
    ·split at h
     ·exact ⟨_,h.2⟩
     ·exact h.elim
    ·exact h.elim
   ·exact h.elim
theorem tswap {tb:Tb} {ops:Array Oper} {x y:Oper} {s:FS} {K:FS→Prop} (ht:isAp x.op=true) (hy:isFA y=true) (hap:Oper.apart ops x y=true)
  (h:tsem tb x s fun s'=>fsem tb ops y s' K):fsem tb ops y s fun s'=>tsem tb x s' K:=by
 obtain ⟨a1,a2,a3⟩:=Oper.apart_spec hap
 have a2':∀ d,y.dst=some d→x.dst≠some d:=fun d e e'=>a2 d e' e
 obtain ⟨st,rfl,hnx,h⟩:=h
 -- some successor
 have hself:=stp_put (dst:=none) (r:=.junk) (ops:=ops) ht (fun d e=>by cases e) (fun d e=>by cases e) hnx h
 obtain ⟨n,n0,hk,tt,_,_⟩:=stp_wit ht (by exact hnx) hself
 obtain ⟨q,q1,q2,q3,q4,_⟩:=hk
 have q1':=(gres_TT hy tt a1).1 q1
 obtain ⟨t,o,k,off,fi,r,h1,h2,rfl,h4⟩:=gres_fa hy q1'
 refine ⟨_,q1',q2,q3,fun h=>(by cases h),fun z hz=>?_⟩
 cases hz
 refine ⟨st.put y.dst r,fs_put0 _ _ _,(noX_congr fun z hz=>put_ev fun d e=>looksAt_op (a3 d e) z hz).trans hnx,stp_mono (fun m hm=>?_) (stp_put ht a3 a2' hnx h)⟩
 obtain ⟨m0,hk0,t1,t2,hu⟩:=hm
 obtain ⟨q',g1,g2,g3,g4,g5⟩:=hk0
 have g1':=(gres_TT hy t1 a1).1 g1
 rw [q1'] at g1'
 obtain rfl:=Option.some.inj g1'
 have:=g5 r rfl
 simp only at this
 rw [← hu r,upd_self] at this
 ·exact this
 ·intro d hd hlt
  have hst:∀ a b,(r.strip a).strip b=r:=by
   rcases h4 with ⟨k',n',_,rfl⟩ | ⟨ls,_,rfl⟩<;>intro a b<;>rfl
  exact TT.stable t2 (a2' d hd) hst (by rw [lk_put,hd];exact if_pos ⟨by rw [← put_nt st y.dst r,← t2.nt];exact hlt,rfl⟩)
theorem tswap' {tb:Tb} {ops:Array Oper} {x y:Oper} {s:FS} {K:FS→Prop} (ht:isAp x.op=true) (hy:isFA y=true) (hap:Oper.apart ops x y=true)
  (h:fsem tb ops y s fun s'=>tsem tb x s' K):tsem tb x s fun s'=>fsem tb ops y s' K:=by
 obtain ⟨a1,a2,a3⟩:=Oper.apart_spec hap
 have a2':∀ d,y.dst=some d→x.dst≠some d:=fun d e e'=>a2 d e' e
 obtain ⟨q,q1,q2,q3,q4,h⟩:=h
 obtain ⟨t,o,k,off,fi,r,h1,h2,rfl,h4⟩:=gres_fa hy q1
 have hst:∀ a b,(r.strip a).strip b=r:=by
  rcases h4 with ⟨k',n',_,rfl⟩ | ⟨ls,_,rfl⟩<;>intro a b<;>rfl
 obtain ⟨st,hfs,hnx,h⟩:=h r rfl
 simp only at hfs
 -- the state ahead
 let st0:St:=st.put y.dst (match y.dst with | some d=>s.σ d | none=>.junk)
 have hnt:st.nt=s.nt:=congrArg FS.nt hfs
 have hrn:st.rn=s.rn:=congrArg FS.rn hfs
 have hσ:∀ z,lk z st.σ=(s.upd y.dst r 0).σ z:=fun z=>congrFun (congrArg FS.σ hfs) z
 have h0:st0.fs=s:=by
  show (st.put y.dst _).fs=s
  rw [fs_put0,hfs]
  cases hd:y.dst with
  | none=>rfl
  | some d =>
   unfold FS.upd
   simp only
   by_cases hl:d < s.nt
   ·simp only [if_pos hl]
    have:(fun x=>if x=d then s.σ d else if x=d then r else s.σ x)=s.σ:=by
     funext x;by_cases hx:x=d
     ·subst hx;simp
     ·simp [hx]
    rw [this];rfl
   ·simp only [if_neg hl];rfl
 refine ⟨st0,h0,(noX_congr fun z hz=>put_ev fun d e=>looksAt_op (a3 d e) z hz).trans hnx,stp_mono (fun m hm=>?_) (stp_put (r:=(match y.dst with | some d=>s.σ d | none=>.junk)) ht a3 a2' hnx h)⟩
 obtain ⟨m0,hk0,t1,t2,hu⟩:=hm
 refine ⟨_,(gres_TT hy t2 a1).2 (by show gres tb ops y st0.fs=_;rw [h0];exact q1),q2,q3,fun h=>(by cases h),fun z hz=>?_⟩
 cases hz
 show K (m.fs.upd y.dst r 0)
 rw [hu r,upd_self]
 ·exact hk0
 ·intro d hd hlt
  refine TT.stable t1 (a2' d hd) hst ?_
  rw [hσ,hd]
  unfold FS.upd
  simp only
  rw [if_pos (by rw [← hnt,← t1.nt];exact hlt)]
  simp
def comm (ops:Array Oper) (x y:Oper):Bool :=
 Oper.apart ops x y && Oper.apart ops y x && ((!isT x && !isT y && !(isCall x && isCall y)) || (isAT x && isFA y) || (isFA x && isAT y))
theorem isFA_not {y:Oper} (h:isFA y=true):isT y=false:=by
 simp only [isFA,Bool.and_eq_true] at h
 unfold isT isTop
 match hop:y.op,h.2 with
 | .fieldAddr _ _ _,_=>simp
theorem isAT_top {y:Oper} (h:isAT y=true):isAp y.op=true:=by
 simp only [isAT,Bool.and_eq_true] at h
 exact h.2
theorem isAT_isT {y:Oper} (h:isAT y=true):isT y=true:=by
 simp only [isAT,Bool.and_eq_true] at h
 simp only [isT,Bool.and_eq_true]
 refine ⟨h.1,?_⟩
 have h2:=h.2
 unfold isAp at h2
 unfold isTop
 split at h2
 ·rename_i e;rw [e]
 ·rename_i c e
  rw [e]
  simp only
  split at h2
  ·rename_i e2;rw [e2]
  ·cases h2
 ·cases h2
theorem oswap {tb:Tb} {ops:Array Oper} {x y:Oper} {s:FS} {K:FS→Prop} (hc:comm ops x y=true) (h:osem tb ops x s fun s'=>osem tb ops y s' K):osem tb ops y s fun s'=>osem tb ops x s' K:=by
 simp only [comm,Bool.and_eq_true,Bool.or_eq_true,Bool.not_eq_true'] at hc
 obtain ⟨⟨a1,a2⟩,hc⟩:=hc
 unfold osem at *
 rcases hc with (⟨⟨h1,h2⟩,h3⟩ | ⟨h1,h2⟩) | ⟨h1,h2⟩
 ·simp only [h1,h2,Bool.false_eq_true,if_false] at h ⊢
  exact fswap a1 h3 h
 ·simp only [isAT_isT h1,isFA_not h2,Bool.false_eq_true,if_false,if_true] at h ⊢
  exact tswap (isAT_top h1) h2 a1 h
 ·simp only [isAT_isT h2,isFA_not h1,Bool.false_eq_true,if_false,if_true] at h ⊢
  exact tswap' (isAT_top h2) h1 a2 h
theorem osem_mono {tb:Tb} {ops:Array Oper} {x:Oper} {s:FS} {K K':FS→Prop} (hk:∀ s',K s'→K' s') (h:osem tb ops x s K):osem tb ops x s K':=by
 unfold osem at *
 split
 ·rename_i ht
  rw [if_pos ht] at h
  obtain ⟨st,h1,h0,h2⟩:=h
  exact ⟨st,h1,h0,stp_mono (fun _ h=>hk _ h) h2⟩
 ·rename_i ht
  rw [if_neg ht] at h
  obtain ⟨q,h1,h2,h3,h4,h5⟩:=h
  exact ⟨q,h1,h2,h3,h4,fun x hx=>hk _ (h5 x hx)⟩
def fopsI (tb:Tb) (ops:Array Oper):List Nat→FS→(FS→Prop)→Prop
 | [],s,K=>K s
 | i::l,s,K=>match ops[i]? with
  | some o=>osem tb ops o s fun s'=>fopsI tb ops l s' K
  | none=>fopsI tb ops l s K
theorem pull {tb:Tb} {ops:Array Oper} {i:Nat} {o:Oper} {K:FS→Prop} (ho:ops[i]? = some o) (l2:List Nat):∀ (l1:List Nat) (s:FS),(∀ j ∈ l1,∀ x,ops[j]? = some x→comm ops x o=true)→fopsI tb ops (l1++i::l2) s K→osem tb ops o s fun s'=>fopsI tb ops (l1++l2) s' K
 | [],s,_,h=>by
  simp only [List.nil_append,fopsI,ho] at h ⊢
  exact h
 | j::l1,s,hc,h=>by
  simp only [List.cons_append,fopsI] at h ⊢
  cases hj:ops[j]? with
  | none =>
   simp only [hj] at h ⊢
   exact pull ho l2 l1 s (fun k hk=>hc k (by simp [hk])) h
  | some x =>
   simp only [hj] at h ⊢
   exact oswap (hc j (by simp) x hj) (osem_mono (fun s' h'=>pull ho l2 l1 s' (fun k hk=>hc k (by simp [hk])) h') h)
def RF (E:En) (s:FS) (a:Act) (w:World):Prop:=∃ st:St,st.fs=s∧R E st a w
theorem Valid.plain {P:Program} {f:FuncId} {C:Con} (h:Valid P f C):Valid P f { C with own:=false }:=by
 intro c args vs bv B n h1 h2 h3 h4 h5 h6 h7 h8
 refine (h c args vs bv B n h1 h2 h3 h4 h5 h6 h7 h8).mono fun e w' ⟨v,r,c',he,hp,O⟩=>⟨v,r,c',he,hp,?_⟩
 exact ⟨O.w,O.g,O.rd,O.fr,O.S,O.sx,O.s1,O.tok,O.toktok,O.rk⟩
theorem fres_ok {E:En} {tb:Tb} (hE:TbOk E tb) {o:Oper} {st:St} {a:Act} {w:World} (h:R E st a w) {q:Res} (hq:fres tb o.op st.ev (fun k=>lkm k st.m)=some q) (hc:q.c) (hd:q.d=true→tb.draws=true∧st.rn + q.k≤lim)
  {next:Act→World→Prop} {Q:Exit→Act→World→Prop} (hn:∀ x a' w',q.p x→R E { (st.put o.dst x) with rn:=st.rn + q.k } a' w'→next a' w'):o.wp E.P a w next Q:=by
 have hdop:dres tb o.op st.ev (fun k=>lkm k st.m)=some q→o.wp E.P a w next Q:=by
  intro hs
  unfold dres at hs
  split at hs
  ·rename_i c r hd'
   obtain rfl:=Option.some.inj hs
   refine (dopD_ok h hE.T (hgl_of hE h) hd' hc).wp fun a' w' h'=>hn r a' w' rfl ?_
   have e:({ (st.put o.dst r) with rn:=st.rn + 0 }:St)=st.put o.dst r:=by
    have:=put_rn st o.dst r
    rw [Nat.add_zero,← this]
   rw [e];exact h'
  ·cases hs
 unfold fres at hq
 split at hq
 ·rename_i c ho
  split at hq
  ·rename_i fo hfo
   split at hq
   ·rename_i f hf
    split at hq
    ·rename_i C hC
     obtain rfl:=Option.some.inj hq
     simp only at hc hd hn
     obtain ⟨callee,args,ats⟩:=c
     simp only at hfo hc hd hn
     subst hfo
     rw [argsF_eq,argsE_eq] at hc hn
     obtain ⟨⟨g1,g2⟩,g3⟩:=ck_ok hE hC
     refine op_call h f fo args ats ho (fnOf_ok hf) g1 g2.plain g3 (fun e=>by rw [hE.dr];exact (hd e).1) hc (fun e=>(hd e).2) fun r hr a' w' h'=>hn r.er a' w' ⟨r,hr,rfl⟩ ?_
     unfold St.called at h'
     simpa using h'
    ·cases hq
   ·cases hq
  ·rename_i xo nm hfo
   split at hq
   ·rename_i t u hf
    split at hq
    ·rename_i s f hm
     split at hq
     ·rename_i C hC
      obtain rfl:=Option.some.inj hq
      simp only at hc hd hn
      obtain ⟨rfl,hc⟩:=hc
      obtain ⟨callee,args,ats⟩:=c
      simp only at hfo hc hd hn
      subst hfo
      rw [argsF_eq,argsE_eq] at hc hn
      obtain ⟨⟨g1,g2⟩,g3⟩:=ck_ok hE hC
      refine op_invoke h f t u xo _ args ats ho hf (hE.M _ (mk_mem hm)) g1 g2.plain g3 (fun e=>by rw [hE.dr];exact (hd e).1) hc (fun e=>(hd e).2) fun r hr a' w' h'=>hn r.er a' w' ⟨r,hr,rfl⟩ ?_
      unfold St.called at h'
      simpa using h'
     ·cases hq
    ·cases hq
   ·cases hq
  ·exact hdop hq
 ·exact hdop hq
theorem osem_ok {E:En} {tb:Tb} (hE:TbOk E tb) {ops:Array Oper} {i:Nat} {o:Oper} (ho:ops[i]? = some o) {s:FS} {a:Act} {w:World} (h:RF E s a w) {K:FS→Prop} (hs:osem tb ops o s K) {next:Act→World→Prop} {Q:Exit→Act→World→Prop} (hn:∀ s' a' w',RF E s' a' w'→K s'→next a' w') :
  wpOp E.P ops Q i next a w:=by
 obtain ⟨st,rfl,hr⟩:=h
 unfold wpOp
 simp only [ho]
 unfold osem at hs
 split at hs
 ·rename_i ht
  obtain ⟨st',h1,_,h2⟩:=hs
  have hg:o.guard=none:=by simp only [isT,Bool.and_eq_true,Option.isNone_iff_eq_none] at ht;exact ht.1
  rw [if_pos (by simp [Region.wanted,hg])]
  exact .inl (stp_ok hE (hr.eqv (eqv_of_fs h1.symm)) h2 fun st2 a' w' h' hk=>hn _ a' w' ⟨st2,rfl,h'⟩ hk)
 ·obtain ⟨q,h1,h2,h3,h4,h5⟩:=hs
  have key:fres tb o.op st.fs.ev st.fs.m=some q→o.wp E.P a w next Q:=fun hq=>by
   rw [fs_ev] at hq
   exact fres_ok hE hr hq h2 h4 fun x a' w' hx h'=>hn _ a' w' ⟨_,rfl,h'⟩ (by rw [fs_put];exact h5 x hx)
  have skip:q=⟨True,fun y=>y = .tup [],0,false⟩→next (a.put o.dst undef) w:=fun hq=>by
   subst hq
   exact hn _ _ _ ⟨_,rfl,hr.skipped o.dst⟩ (by rw [fs_put0];exact h5 _ rfl)
  unfold gres at h1
  split at h1
  ·rename_i hg
   rw [if_pos (by simp [Region.wanted,hg])]
   exact .inl (key h1)
  ·rename_i j want hg
   split at h1
   ·rename_i d hd
    have hy:∀ v,a.tmps[d]? = some v→yielded ops a.tmps j=(match v with | .bool b=>some b | _=>none):=fun v hv=>by
     unfold yielded
     simp only [hd,Option.bind_some,hv]
     cases v<;>rfl
    split at h1
    ·rename_i b hlk
     split at h1
     ·rename_i hlt
      have hv:a.tmps[d]? = some (.bool b):=by
       obtain ⟨c,_,_,h3,h4,_⟩:=hr
       have:=h3 d
       have hlk':lk d st.σ = .v (.bool b):=hlk
       rw [hlk'] at this
       have hlt':d < a.tmps.size:=by rw [h4];exact hlt
       rw [Array.getD_eq_getD_getElem?,Array.getElem?_eq_getElem hlt'] at this
       rw [Array.getElem?_eq_getElem hlt']
       simp only [Option.getD_some] at this
       generalize a.tmps[d]=u at this
       cases this;rfl
      have hyd:=hy _ hv
      simp only at hyd
      split at h1
      ·rename_i hb
       subst hb
       rw [if_pos (by simp [Region.wanted,hg,hyd])]
       exact .inl (key h1)
      ·rename_i hb
       rw [if_neg (by simp [Region.wanted,hg,hyd,hb])]
       exact skip (Option.some.inj h1).symm
     ·cases h1
    ·rename_i hlk
     have hyd:yielded ops a.tmps j=none:=by
      cases hv:a.tmps[d]? with
      | none =>
       unfold yielded
       simp only [hd,Option.bind_some,hv]
      | some v =>
       rw [hy v hv]
       obtain ⟨c,_,_,h3,h4,_⟩:=hr
       have:=h3 d
       have hlk':lk d st.σ = .tup []:=hlk
       rw [hlk',Array.getD_eq_getD_getElem?,hv] at this
       simp only [Option.getD_some] at this
       cases this with
       | tup ls cs hn hh=>rfl
     rw [if_neg (by simp [Region.wanted,hg,hyd])]
     exact skip (Option.some.inj h1).symm
    ·cases h1
   ·cases h1
/- which operations reach which -/
def rch (ops:Array Oper):Nat→Nat→Nat→Bool
 | 0,_,_=>false
 | n + 1,i,j=>match ops[i]? with
  | some o=>o.after.toList.any fun e=>Region.binds .any e && (e.on == j || rch ops n e.on j)
  | none=>false
def Closed (ops:Array Oper) (listed:Array Bool):Prop :=
 ∀ i o,ops[i]? = some o→listed.getD i false=true→∀ e ∈ o.after,Region.binds .any e=true→listed.getD e.on false=true
theorem rch_ok {ops:Array Oper} {listed:Array Bool} (hc:Closed ops listed):∀ (n i j:Nat),(∀ o,ops[i]? = some o→∀ e ∈ o.after,Region.binds .any e=true→listed.getD e.on false=true)→rch ops n i j=true→listed.getD j false=true
 | 0,_,_,_,h=>by simp [rch] at h
 | n + 1,i,j,hi,h=>by
  simp only [rch] at h
  split at h
  ·rename_i o ho
   rw [List.any_eq_true] at h
   obtain ⟨e,he,h⟩:=h
   simp only [Bool.and_eq_true,Bool.or_eq_true,beq_iff_eq] at h
   obtain ⟨hb,h⟩:=h
   have hl:=hi o ho e (by simpa using he) hb
   rcases h with rfl | h
   ·exact hl
   ·exact rch_ok hc n e.on j (fun o' ho'=>hc e.on o' ho' hl) h
  ·cases h
def chk (n:Nat) (ops:Array Oper):Bool :=
 (List.range ops.size).all fun i=>match ops[i]? with
  | some o=>(o.after.toList.all fun e=>!Region.binds .any e || decide (e.on < i)) && ((List.range i).all fun j=>match ops[j]? with
   | some x=>comm ops x o || rch ops n i j
   | none=>true)
  | none=>true
theorem chk_after {n:Nat} {ops:Array Oper} (h:chk n ops=true) {i:Nat} {o:Oper} (ho:ops[i]? = some o):∀ e ∈ o.after,Region.binds .any e=true→e.on < i:=by
 intro e he hb
 have hlt:i < ops.size:=(Array.getElem?_eq_some_iff.1 ho).1
 have h1:=(List.all_eq_true.1 h) i (List.mem_range.2 hlt)
 rw [ho] at h1
 simp only [Bool.and_eq_true] at h1
 have h2:=(List.all_eq_true.1 h1.1) e (by simpa using he)
 simpa [hb] using h2
theorem chk_comm {n:Nat} {ops:Array Oper} (h:chk n ops=true) {i j:Nat} {o x:Oper} (ho:ops[i]? = some o) (hx:ops[j]? = some x) (hji:j < i):comm ops x o=true∨rch ops n i j=true:=by
 have hlt:i < ops.size:=(Array.getElem?_eq_some_iff.1 ho).1
 have h1:=(List.all_eq_true.1 h) i (List.mem_range.2 hlt)
 rw [ho] at h1
 simp only [Bool.and_eq_true] at h1
 have h2:=(List.all_eq_true.1 h1.2) j (List.mem_range.2 hji)
 rw [hx] at h2
 simpa using h2
def rem (ops:Array Oper) (listed:Array Bool):List Nat:=(List.range ops.size).filter fun i=>!listed.getD i false
theorem rem_split {ops:Array Oper} {listed:Array Bool} (hsz:listed.size=ops.size) {i:Nat} (hi:i < ops.size) (hl:listed.getD i false=false) :
  ∃ l1 l2,rem ops listed=l1++i::l2∧rem ops (listed.setIfInBounds i true)=l1++l2∧∀ j ∈ l1,j < i∧listed.getD j false=false:=by
 unfold rem
 have e:List.range ops.size=List.range i++i::(List.range (ops.size - i - 1)).map (fun k=>i + 1 + k):=by
  have h1:ops.size=i + (1 + (ops.size - i - 1)):=by omega
  conv=>lhs;rw [h1]
  rw [List.range_add,List.range_add]
  simp [List.range_succ,Nat.add_assoc]
 rw [e,List.filter_append,List.filter_append,List.filter_cons,List.filter_cons]
 have h1:(!listed.getD i false)=true:=by rw [hl];rfl
 have h2:(!(listed.setIfInBounds i true).getD i false)=false:=by
  simp [show i < listed.size by omega]
 rw [if_pos h1,h2]
 refine ⟨_,_,rfl,?_,fun j hj=>?_⟩
 ·simp only [Bool.false_eq_true,if_false]
  congr 1
  ·apply List.filter_congr
   intro j hj
   rw [getD_set_ne false (by have:=List.mem_range.1 hj;omega)]
  ·apply List.filter_congr
   intro j hj
   obtain ⟨k,_,rfl⟩:=List.mem_map.1 hj
   rw [getD_set_ne false (by omega)]
 ·have:=List.mem_filter.1 hj
  exact ⟨List.mem_range.1 this.1,by simpa using this.2⟩
theorem any_ok {E:En} {tb:Tb} (hE:TbOk E tb) {ops:Array Oper} {n:Nat} (hck:chk n ops=true) {K:FS→Prop} {Q:Exit→Act→World→Prop} (hK:∀ s a w,RF E s a w→K s→Q .normal a w) :
  ∀ (fuel:Nat) (listed:Array Bool) (s:FS) (a:Act) (w:World),listed.size=ops.size→Closed ops listed→(rem ops listed).length≤fuel→RF E s a w→fopsI tb ops (rem ops listed) s K→wpAny E.P .any ops Q fuel listed a w:=by
 have hq:∀ (listed:Array Bool) (i:Nat),listed.size=ops.size→i < ops.size→listed.getD i true=listed.getD i false:=fun listed i h hi=>by
  have:i < listed.size:=by omega
  simp [this]
 have hnil:∀ (listed:Array Bool),listed.size=ops.size→rem ops listed=[]→Region.ready .any ops listed=[]:=fun listed hsz h=>by
  rw [List.eq_nil_iff_forall_not_mem]
  intro i hi
  obtain ⟨h1,o,ho,_⟩:=mem_ready.1 hi
  have hlt:i < ops.size:=(Array.getElem?_eq_some_iff.1 ho).1
  rw [hq listed i hsz hlt] at h1
  have:i ∈ rem ops listed:=List.mem_filter.2 ⟨List.mem_range.2 hlt,by rw [h1];rfl⟩
  rw [h] at this;cases this
 intro fuel
 induction fuel with
 | zero =>
  intro listed s a w hsz hcl hl hr hf
  have hn:rem ops listed=[]:=List.eq_nil_of_length_eq_zero (by omega)
  rw [hn] at hf
  exact ⟨hnil listed hsz hn,hK s a w hr hf⟩
 | succ fuel ih =>
  intro listed s a w hsz hcl hl hr hf
  refine ⟨fun h0=>?_,fun i hi=>?_⟩
  ·have hn:rem ops listed=[]:=by
    cases hrem:rem ops listed with
    | nil=>rfl
    | cons i l =>
     exfalso
     have hi:i ∈ rem ops listed:=by rw [hrem];simp
     obtain ⟨h1,h2⟩:=List.mem_filter.1 hi
     have hlt:=List.mem_range.1 h1
     have hlf:listed.getD i false=false:=by simpa using h2
     have ho:ops[i]? = some ops[i]:=Array.getElem?_eq_getElem hlt
     have:i ∈ Region.ready .any ops listed:=mem_ready.2 ⟨by rw [hq listed i hsz hlt];exact hlf,_,ho,fun e he hb=>by
      have hlt':=chk_after hck ho e he hb
      cases hle:listed.getD e.on false with
      | true=>rfl
      | false =>
       exfalso
       obtain ⟨l1,l2,e1,_,e3⟩:=rem_split hsz hlt hlf
       have hmem:e.on ∈ l1:=by
        have hm:e.on ∈ rem ops listed:=List.mem_filter.2 ⟨List.mem_range.2 (by omega),by rw [hle];rfl⟩
        have hs:(rem ops listed).Pairwise (· < ·):=List.Pairwise.filter _ List.pairwise_lt_range
        rw [hrem] at hs hm
        rcases List.mem_cons.1 hm with h | h
        ·omega
        ·have:=(List.pairwise_cons.1 hs).1 _ h;omega
       have hs:l1=[]:=by
        cases l1 with
        | nil=>rfl
        | cons k l1 =>
         rw [hrem,List.cons_append] at e1
         injection e1 with e1 _
         have:=(e3 k (by simp)).1
         omega
       rw [hs] at hmem;cases hmem⟩
     rw [h0] at this;cases this
   rw [hn] at hf
   exact hK s a w hr hf
  ·obtain ⟨h1,o,ho,h2⟩:=mem_ready.1 hi
   have hlt:i < ops.size:=(Array.getElem?_eq_some_iff.1 ho).1
   rw [hq listed i hsz hlt] at h1
   obtain ⟨l1,l2,e1,e2,e3⟩:=rem_split hsz hlt h1
   rw [e1] at hf hl
   have hp:=pull ho l2 l1 s (fun j hj x hx=>by
    obtain ⟨j1,j2⟩:=e3 j hj
    rcases chk_comm hck ho hx j1 with h | h
    ·exact h
    ·have:=rch_ok hcl n i j (fun o' ho' e he hb=>by rw [ho] at ho';obtain rfl:=Option.some.inj ho';exact h2 e he hb) h
     rw [j2] at this;cases this) hf
   refine osem_ok hE ho hr hp fun s' a' w' h' hk=>ih _ s' a' w' (by simpa using hsz) ?_ (by rw [e2];simp only [List.length_append,List.length_cons] at hl ⊢;omega) h' (by rw [e2];exact hk)
   intro k ok hok hk e he hb
   refine getD_set_true ?_
   by_cases hki:i=k
   ·subst hki
    rw [ho] at hok;obtain rfl:=Option.some.inj hok
    exact h2 e he hb
   ·rw [getD_set_ne false hki] at hk
    exact hcl k ok hok hk e he hb
def daops (tb:Tb) (ops:List Oper):List Oper→St→(St→Prop)→Prop
 | [],st,K=>K st
 | o::l,st,K=>dstpG tb ops o st fun st'=>daops tb ops l st' K
theorem daops_fopsI {tb:Tb} {ops:List Oper} {K:St→Prop} {K':FS→Prop} (hk:∀ st',K st'→K' st'.fs):∀ (l:List Oper) (k:Nat) (st:St),ops.drop k=l→daops tb ops l st K→fopsI tb ops.toArray ((List.range l.length).map (fun j=>k + j)) st.fs K'
 | [],k,st,_,h=>hk st h
 | o::l,k,st,hd,h=>by
  rw [List.length_cons,List.range_succ_eq_map,List.map_cons,List.map_map]
  have ho:ops.toArray[k + 0]? = some o:=by
   have:=congrArg (fun x=>x[0]?) hd
   simp at this
   simpa using this
  simp only [fopsI,ho]
  refine osem_mono (fun s' h'=>h') (dstpG_osem (K':=fun s'=>fopsI tb ops.toArray (List.map ((fun j=>k + j) ∘ Nat.succ) (List.range l.length)) s' K') (fun st' h'=>?_) h)
  have:=daops_fopsI hk l (k + 1) st' (by rw [← List.drop_drop,hd];rfl) h'
  have e:((fun j=>k + j) ∘ Nat.succ)=(fun j=>k + 1 + j):=by funext j;simp only [Function.comp];omega
  rw [e];exact this
theorem Aw_draw {E:En} {tb:Tb} (hE:TbOk E tb) {id:Nat} {l:List Oper} {st:St} {Q:Exit→St→Prop} (L Lm:List Nat) (n:Nat) (hck:chk n l.toArray=true) (h:daops tb l l st fun st'=>Q .normal (st'.keep L Lm)):Aw E (.region id l.toArray true) st Q:=by
 intro a w hr
 refine wp_region_any hE.mx ?_
 have hrem:rem l.toArray (Array.replicate l.toArray.size false)=List.range l.length:=by
  unfold rem
  simp only [List.size_toArray]
  apply List.filter_eq_self.2
  intro i hi
  have:=List.mem_range.1 hi
  simp [this]
 refine any_ok hE hck (K:=fun s=>∃ st':St,st'.fs=s∧Q .normal (st'.keep L Lm)) (fun s a' w' ⟨st1,h1,h2⟩ ⟨st2,h3,h4⟩=>⟨_,(h2.eqv (eqv_of_fs (h1.trans h3.symm))).keep L Lm,h4⟩) _ _ st.fs a _ (by simp) (fun i o ho hl=>?_) (by rw [hrem];simp) ⟨st,rfl,hr.drew⟩ ?_
 ·exfalso
  have:i < l.toArray.size:=(Array.getElem?_eq_some_iff.1 ho).1
  simp only [List.size_toArray] at this
  simp [this] at hl
 ·rw [hrem]
  have:=daops_fopsI (tb:=tb) (ops:=l) (K:=fun st'=>Q .normal (st'.keep L Lm)) (K':=fun s=>∃ st':St,st'.fs=s∧Q .normal (st'.keep L Lm)) (fun st' h'=>⟨st',rfl,h'⟩) l 0 st rfl h
  simpa using this
theorem mpTy_couple {P:Program} {t kt et:TypeId} {z:Value} (ht:P.underlying t=some (.map kt et)) (hz:(P.info? et).map (fun q=>q.zero)=some (some z)) (hc:z.oneCell'=true) {f1 f2:Field} {e1 e2:TypeId} (h:P.underlying kt=some (.struct #[f1,f2])) (hp:P.stoodInHeld kt=false) (n1:f1.name≠ "_") (n2:f2.name≠ "_") (o1:f1.offset=0) (o2:f2.offset=1)
  (t1:f1.type=e1) (t2:f2.type=e2) (u1:P.underlying e1=some (.int .i64)) (u2:P.underlying e2=some (.int .i64)):MpTy P t 1 z:=by
 obtain ⟨q,q1,q2⟩:=Option.map_eq_some_iff.1 hz
 have hf:P.fieldsOf kt = #[f1,f2]:=by simp [Program.fieldsOf,h]
 have hpart:∀ (w:World) (e:TypeId) (u:P.underlying e=some (.int .i64)) (p q:Int) (off:Nat) (r:Int),(#[Value.int .i64 p,.int .i64 q])[off]? = some (.int .i64 r)→(part e #[.int .i64 p,.int .i64 q] off).run P w = .ok (.int .i64 r) w:=fun w e u p q off r hr=>by
  simp [part,isAgg,run_underlying u,hr]
 have heq:∀ (w:World) (a b c d:Int),(Op.equalIn 10000 kt (.agg #[.int .i64 a,.int .i64 b]) (.agg #[.int .i64 c,.int .i64 d])).run P w = .ok (a == c && b == d) w:=fun w a b c d=>by
  rw [run_equalIn_struct w 9999 kt _ _ (by rw [hf];exact h) hp,hf]
  simp only [Op.eqFields,n1,n2,ne_eq,not_false_eq_true,if_true,Sem.run_bind,o1,o2,t1,t2]
  rw [hpart w e1 u1 a b 0 a rfl]
  simp only [Result.andThen_ok]
  rw [hpart w e1 u1 c d 0 c rfl]
  simp only [Result.andThen_ok]
  rw [run_equalIn_int w 9998 e1 .i64 .i64 a c u1]
  simp only [Result.andThen_ok]
  by_cases h1:a=c
  ·subst h1
   simp only [beq_self_eq_true,Bool.not_true,Bool.false_eq_true,if_false,Bool.true_and,Sem.run_bind]
   rw [hpart w e2 u2 a b 1 b rfl]
   simp only [Result.andThen_ok]
   rw [hpart w e2 u2 a d 1 d rfl]
   simp only [Result.andThen_ok]
   rw [run_equalIn_int w 9998 e2 .i64 .i64 b d u2]
   simp only [Result.andThen_ok]
   by_cases h2:b=d
   ·subst h2;simp
   ·have:(b == d)=false:=by simpa using h2
    simp [this]
  ·have:(a == c)=false:=by simpa using h1
   simp [this]
 refine ⟨(valOk_ne (by decide) z).trans hc,kt,et,ht,fun w=>by simp [zeroValue,typeInfo,q1,q2],fun k hk=>?_⟩
 obtain ⟨a,b,rfl⟩:=isKey1 hk
 refine ⟨fun em w=>?_,fun es hes w=>?_⟩
 ·have c1:∀ (n:Nat) (e:TypeId),P.underlying e=some (.int .i64)→∀ r:Int,(Instr.checkKey em (n + 1) e (.int .i64 r)).run P w = .ok () w:=fun n e u r=>by
   simp [Instr.checkKey,run_underlying u]
  have c2:∀ n:Nat,(Instr.checkKey em (n + 2) kt (.agg #[.int .i64 a,.int .i64 b])).run P w = .ok () w:=fun n=>by
   unfold Instr.checkKey
   simp [run_underlying h,n1,n2,o1,o2,t1,t2,hpart w e1 u1 a b 0 a rfl,hpart w e2 u2 a b 1 b rfl,c1 n _ u1,c1 n _ u2]
  exact c2 9998
 ·rw [run_findKey_eq w (by rw [h]) _ es]
  have:∀ (l:List MapEntry) (i:Nat),(∀ e ∈ l,isKey 1 e.key=true)→(Instr.findAsking kt (.agg #[.int .i64 a,.int .i64 b]) l i).run P w = .ok (fndE 1 (.agg #[.int .i64 a,.int .i64 b]) l i) w:=by
   intro l
   induction l with
   | nil=>intro i _;simp [Instr.findAsking,fndE]
   | cons e l ih =>
    intro i hl
    have hke:=hl e (by simp)
    obtain ⟨c,d,hkd⟩:=isKey1 hke
    have hq:keyEq 1 (.agg #[.int .i64 a,.int .i64 b]) (.agg #[.int .i64 c,.int .i64 d])=(a == c && b == d):=rfl
    simp only [Instr.findAsking,fndE,hkd,hq,Op.equal,Op.maxDepth,Sem.run_bind,heq,Result.andThen_ok]
    cases hcd:(a == c && b == d) with
    | true=>simp
    | false =>
     simp only [Bool.false_eq_true,if_false]
     exact ih (i + 1) fun x hx=>hl x (by simp [hx])
  exact this es 0 hes
theorem mbOk_nil (kd:Nat):mbOk kd []=true:=rfl
theorem isKey_c (a b:Int):isKey 1 (.agg #[.int .i64 a,.int .i64 b])=true:=rfl
theorem keyEq_c (a b c d:Int):keyEq 1 (.agg #[.int .i64 a,.int .i64 b]) (.agg #[.int .i64 c,.int .i64 d])=(a == c && b == d):=rfl
theorem isKey_s (a b c d:Int) (s:ByteArray):isKey 2 (.agg #[.int .i64 a,.int .i64 b,.int .i64 c,.int .i64 d,.string s])=true:=rfl
theorem keyEq_s (a b c d a' b' c' d':Int) (s s':ByteArray):keyEq 2 (.agg #[.int .i64 a,.int .i64 b,.int .i64 c,.int .i64 d,.string s]) (.agg #[.int .i64 a',.int .i64 b',.int .i64 c',.int .i64 d',.string s'])=(a == a' && (b == b' && ((c == c' && d == d') && s.data.toList == s'.data.toList))):=rfl
theorem isKey_i (a:Int):isKey 0 (.int .i64 a)=true:=rfl
theorem keyEq_i (a b:Int):keyEq 0 (.int .i64 a) (.int .i64 b)=(a == b):=rfl
section
variable (tb:Tb) (ops l:List Oper) (o:Oper) (nt:Nat) (σ:List (Nat × AV)) (m:List (Nat × List AV)) (rn:Nat) (st:St) (K:St→Prop) (dst:Option Nat) (C:Con)
theorem aops_nil:aops tb ops [] st K=K st:=rfl
theorem aops_mk:aops tb ops (o::l) ⟨nt,σ,m,rn⟩ K=stpG tb ops o ⟨nt,σ,m,rn⟩ fun st'=>aops tb ops l st' K:=rfl
theorem daops_nil:daops tb ops [] st K=K st:=rfl
theorem daops_mk:daops tb ops (o::l) ⟨nt,σ,m,rn⟩ K=dstpG tb ops o ⟨nt,σ,m,rn⟩ fun st'=>daops tb ops l st' K:=rfl
def called (st:St) (dst:Option Nat) (C:Con) (r:AV):St :=
 match C.own,dst with
 | true,some d=>{ ((st.strip d).put dst (r.adopt d)) with rn:=st.rn + C.cost }
 | _,_=>{ (st.put dst r.er) with rn:=st.rn + C.cost }
theorem called_v (x:Value):St.called st dst C (.v x)=called st dst C (.v x):=rfl
theorem called_nl:St.called st dst C .nl=called st dst C .nl:=rfl
theorem called_rd:St.called st dst C .rd=called st dst C .rd:=rfl
theorem called_junk:St.called st dst C .junk=called st dst C .junk:=rfl
theorem called_sl (t:Option (Nat × Nat × TypeId)) (els:List (List DV)):St.called st dst C (.sl t els)=called st dst C (.sl t els):=rfl
theorem called_agg (ls:List AV):St.called st dst C (.agg ls)=called st dst C (.agg ls):=rfl
theorem called_tup (ls:List AV):St.called st dst C (.tup ls)=called st dst C (.tup ls):=rfl
theorem called_dv (x:DV):St.called st dst C (.dv x)=called st dst C (.dv x):=rfl
theorem called_el (ls:List DV):St.called st dst C (.el ls)=called st dst C (.el ls):=rfl
end
theorem fnOf_func (f:FuncId):fnOf (.v (.func (.func f) #[] #[]))=some f:=rfl
attribute [go_sem] frzOk ptrN dcl allOne mapV ifcV asrt isEmpB AV.frz AV.frzAll frzσ frzm St.frz zeroD ifcA valsA glk ifcOf callA mk frzC capsL Value.oneCell' mmk exk callM callR rhoA rhoS rhoC shf dN lentM nilS memN isNlX nlk nlkR hasR backM remF stripFσ stripFm AV.stripF AV.stripFAll AV.mvn AV.mvnAll AV.nt AV.ntAll ntm ntσ St.calledM xsOf srcL noX fnOf_func aops_nil aops_mk daops_nil daops_mk called called_v called_nl called_rd called_junk called_sl called_agg called_tup called_el called_dv
 stpG stp dstpG dstp dopD bsl dop dop.partsE bnd ld ldL elt fld isTop argsE ownOf St.ev St.know AV.ofVal leafOf st0 enumA St.put St.keep kps kpm lk lkm binC binR pickA gk dk tyk AV.leaves AV.els fillL setL fldSizes
 AV.er AV.erAll AV.adopt AV.adoptAll adoptTok AV.strip AV.stripAll stripTok stripσ stripm AV.stripL AV.stripLAll stripLσ stripLm St.strip St.strip2 St.stripL newbox repm DV.toAV DV.ofAV nilV DV.ofAll isbT eq2T issT ifcT nilV nilR eq3T bytesL allLeaf AV.isLeaf retA resL res1 oneR AV.xp AV.xpAll chunks DFn.con
attribute [go_sem] Int.toNat_natCast List.size_toArray beq_self_eq_true true_and and_true ne_eq not_false_eq_true Bool.and_self false_and and_false ite_self Nat.sub_zero Nat.mul_one Nat.zero_mul Nat.add_one_ne_zero Nat.zero_add Nat.add_zero List.getElem?_cons_zero List.getElem?_cons_succ List.getElem?_nil List.replicate_succ List.replicate_zero List.set_cons_zero List.set_cons_succ List.set_nil Nat.le_refl List.take_nil List.drop_zero List.head?_cons List.head?_nil List.map_cons List.map_nil List.take_succ_cons List.take_zero List.cons_append List.nil_append List.append_nil List.drop_succ_cons List.drop_nil List.length_cons List.length_nil true_implies false_implies Bool.not_true Bool.not_false Bool.true_eq_false Bool.false_eq_true cond_true cond_false implies_true forall_eq forall_eq' exists_eq_left' exists_eq' exists_eq exists_eq_left Option.some.injEq Prod.mk.injEq List.cons.injEq AV.v.injEq AV.agg.injEq AV.sl.injEq DV.v.injEq Value.int.injEq Value.bool.injEq Value.string.injEq
attribute [go_sem ↓ high] gs_true gs_false
attribute [go_sem ↓ low] gs_any
section
variable {E:En} {tb:Tb} {st:St} {Q:Exit→St→Prop}
theorem Aw_sq {x y:Code} (h:∀ B:Exit→St→Prop,(∀ st',Aw E y st' Q→B .normal st')→(∀ st',Q .ret st'→B .ret st')→(∀ k st',Q (.exit k) st'→B (.exit k) st')→Aw E x st B):Aw E (.seq x y) st Q :=
 Aw_seq (h _ (fun _ h=>h) (fun _ h=>h) (fun _ _ h=>h))
theorem Aw_st (hE:TbOk E tb) {id:Nat} {l:List Oper} {y:Code} (L Lm:List Nat) (h:∀ K:St→Prop,(∀ st',Aw E y st' Q→K st')→aops tb l l st fun st'=>K (st'.keep L Lm)):Aw E (.seq (.region id l.toArray false) y) st Q :=
 Aw_seq (Aw_text hE L Lm (h _ fun _ h=>h))
theorem Aw_sd (hE:TbOk E tb) {id:Nat} {l:List Oper} {y:Code} (L Lm:List Nat) (n:Nat) (hck:chk n l.toArray=true) (h:∀ K:St→Prop,(∀ st',Aw E y st' Q→K st')→daops tb l l st fun st'=>K (st'.keep L Lm)):Aw E (.seq (.region id l.toArray true) y) st Q :=
 Aw_seq (Aw_draw hE L Lm n hck (h _ fun _ h=>h))
theorem Aw_tx (hE:TbOk E tb) {id:Nat} {l:List Oper} (L Lm:List Nat) (h:∀ K:St→Prop,(∀ st',Q .normal st'→K st')→aops tb l l st fun st'=>K (st'.keep L Lm)):Aw E (.region id l.toArray false) st Q :=
 Aw_text hE L Lm (h _ fun _ h=>h)
theorem Aw_td (hE:TbOk E tb) {id:Nat} {l:List Oper} (L Lm:List Nat) (n:Nat) (hck:chk n l.toArray=true) (h:∀ K:St→Prop,(∀ st',Q .normal st'→K st')→daops tb l l st fun st'=>K (st'.keep L Lm)):Aw E (.region id l.toArray true) st Q :=
 Aw_draw hE L Lm n hck (h _ fun _ h=>h)
theorem Aw_bk {id:Nat} {c:Code} (h:∀ B:Exit→St→Prop,(∀ st',Q .normal st'→B .normal st')→(∀ st',Q .normal st'→B (.exit id) st')→(∀ st',Q .ret st'→B .ret st')→(∀ k st',k≠id→Q (.exit k) st'→B (.exit k) st')→Aw E c st B):Aw E (.block id c) st Q :=
 Aw_block (h _ (fun _ h=>h) (fun st' h=>by simp only [blockA,if_true];exact h) (fun _ h=>h) (fun k st' hk h=>by simp only [blockA,if_neg hk];exact h))
theorem Aw_lp {c:Code} {ι:Type} (F:ι→St) (p:ι→Prop) (μ:ι→Nat) (i0:ι) (h0:Le st (F i0)) (hp:p i0)
  (hs:∀ i,p i→∀ B:Exit→St→Prop,(∀ j st',p j→μ j < μ i→Le st' (F j)→B .normal st')→(∀ st',Q .ret st'→B .ret st')→(∀ k st',Q (.exit k) st'→B (.exit k) st')→Aw E c (F i) B):Aw E (.loop c) st Q :=
 Aw_loop F p μ i0 h0 hp fun i hi=>hs i hi _ (fun j _ h1 h2 h3=>⟨j,h1,h2,h3⟩) (fun _ h=>h) (fun _ _ h=>h)
end
def Fine (P:Program) (f:FuncId) (C:Con):Prop:=Callable P f∧Valid P f C
def Inh (I J:World→Prop) (dr:Bool):Prop:=∀ w w' g,I w→w.grownBy w' (if dr then some g else none)→J w'
theorem inh_true {I:World→Prop} {dr:Bool}:Inh I (fun _=>True) dr:=fun _ _ _ _ _=>trivial
def GsOk (P:Program) (I:World→Prop) (dr:Bool) (G:List (FuncId × Con)):Prop:=∀ p ∈ G,Fine P p.1 p.2∧Inh I p.2.inv dr
theorem gs_nil {P:Program} {I:World→Prop} {dr:Bool}:GsOk P I dr []:=fun p hp=>by cases hp
theorem gs_cons {P:Program} {I:World→Prop} {dr:Bool} {f:FuncId} {C:Con} {G:List (FuncId × Con)} (h:Fine P f C) (k:GsOk P I dr G) (hi:Inh I C.inv dr:=by exact inh_true):GsOk P I dr ((f,C)::G):=fun p hp=>by
 rcases List.mem_cons.1 hp with rfl | hp
 ·exact ⟨h,hi⟩
 ·exact k p hp
def DsOk (P:Program) (I:World→Prop) (dr:Bool) (D:List (FuncId × DFn)):Prop:=∀ p ∈ D,Fine P p.1 p.2.con∧Inh I p.2.inv dr
theorem ds_nil {P:Program} {I:World→Prop} {dr:Bool}:DsOk P I dr []:=fun p hp=>by cases hp
theorem ds_cons {P:Program} {I:World→Prop} {dr:Bool} {f:FuncId} {d:DFn} {D:List (FuncId × DFn)} (h:Fine P f d.con) (k:DsOk P I dr D) (hi:Inh I d.inv dr:=by exact inh_true):DsOk P I dr ((f,d)::D):=fun p hp=>by
 rcases List.mem_cons.1 hp with rfl | hp
 ·exact ⟨h,hi⟩
 ·exact k p hp
def FineM (P:Program) (f:FuncId) (C:ConM):Prop:=Callable P f∧ValidM P f C
def MMsOk (P:Program) (I:World→Prop) (dr:Bool) (MM:List (FuncId × (ConM × List (Nat × Nat) × List (Nat × Nat)))):Prop:=∀ p ∈ MM,FineM P p.1 p.2.1∧okN p.2.2.1 p.2.2.2∧Inh I p.2.1.inv dr
theorem mm_nil {P:Program} {I:World→Prop} {dr:Bool}:MMsOk P I dr []:=fun p hp=>by cases hp
theorem mm_cons {P:Program} {I:World→Prop} {dr:Bool} {f:FuncId} {C:ConM} {ρ φ:List (Nat × Nat)} {MM:List (FuncId × (ConM × List (Nat × Nat) × List (Nat × Nat)))} (h:FineM P f C) (hn:okN ρ φ) (k:MMsOk P I dr MM) (hi:Inh I C.inv dr:=by exact inh_true):MMsOk P I dr ((f,(C,ρ,φ))::MM):=fun p hp=>by
 rcases List.mem_cons.1 hp with rfl | hp
 ·exact ⟨h,hn,hi⟩
 ·exact k p hp
def ExsOk (P:Program) (EX:List (FuncId × ExG)):Prop:=∀ p ∈ EX,ExtOk P p.1 p.2
theorem ex_nil {P:Program}:ExsOk P []:=fun p hp=>by cases hp
def GlOk (I:World→Prop) (dr:Bool) (gl:List (Nat × Value)):Prop:=∀ p ∈ gl,p.2.oneCell'=true∧∀ w w' g,I w→w.grownBy w' (if dr then some g else none)→w'.cell? ⟨p.1,0,none⟩=some p.2
theorem gl_nil {I:World→Prop} {dr:Bool}:GlOk I dr []:=fun _ h=>by cases h
section
variable {P:Program} {f:FuncId} {fn:Func} {body:Code} {T:List (TypeId × TyI)} {G:List (FuncId × Con)} {D:List (FuncId × DFn)} {nt:Nat} {rs:List ResultVar}
theorem fine_ofX {C:Con} (gl:List (Nat × Value)) (hgl:GlOk C.inv C.draws gl) (M:List ((TypeId × String) × FuncId)) (hM:MsOk P M) (MM:List (FuncId × (ConM × List (Nat × Nat) × List (Nat × Nat)))) (hMM:MMsOk P C.inv C.draws MM) (X:List Nat) (EX:List (FuncId × ExG)) (hEX:ExsOk P EX) (hf:P.funcs[f]? = some fn) (hb:fn.body=some body) (hn:fn.ntmps=nt) (hr:fn.results.toList=rs) (hnm:(fn.name == "runtime.NumGoroutine")=false)
  (hm:P.follows .mixedOrders=true) (hT:TysOk P T) (hG:GsOk P C.inv C.draws G) (hD:DsOk P C.inv C.draws D)
  (h:∀ args,C.pre args→args.length≤nt∧∀ n,(C.draws=true→n + C.cost≤lim)→∀ E:En,TbOk E { T:=T,G:=G,D:=D,draws:=C.draws,gl:=gl,M:=M,MM:=MM,X:=X,EX:=EX }→∀ Q:Exit→St→Prop,(∀ st,retA T rs C args n .ret st→Q .ret st)→Aw E body (st0 nt args n) Q):Fine P f C :=
 ⟨⟨fn,hf,by rw [hb];rfl,hnm⟩,valid_of hf hb hT fun args ha=>by
  obtain ⟨h1,h2⟩:=h args ha
  subst hn;subst hr
  exact ⟨h1,fun n hl E hE hD' hL hi=>h2 n hl E ⟨by rw [hE];exact hT,fun p hp=>by rw [hE];exact (hG p hp).1,fun p hp=>by rw [hE];exact (hD p hp).1,fun p hp w hw=>(hG p hp).2 _ w E.g hi (by rw [← hD'];exact hw.by hL),fun p hp w hw=>(hD p hp).2 _ w E.g hi (by rw [← hD'];exact hw.by hL),hD',fun p hp=>⟨(hgl p hp).1,fun w hw=>(hgl p hp).2 _ w E.g hi (by rw [← hD'];exact hw.by hL)⟩,fun _=>hL,by rw [hE];exact hm,by rw [hE];exact hM,
   fun p hp=>⟨by rw [hE];exact (hMM p hp).1,(hMM p hp).2.1,fun w hw=>(hMM p hp).2.2 _ w E.g hi (by rw [← hD'];exact hw.by hL)⟩,by rw [hE];exact hEX,fun _ h=>(by cases h)⟩ _ (fun _ h=>h)⟩⟩
theorem fine_ofG {C:Con} (gl:List (Nat × Value)) (hgl:GlOk C.inv C.draws gl) (M:List ((TypeId × String) × FuncId)) (hM:MsOk P M) (hf:P.funcs[f]? = some fn) (hb:fn.body=some body) (hn:fn.ntmps=nt) (hr:fn.results.toList=rs) (hnm:(fn.name == "runtime.NumGoroutine")=false)
  (hm:P.follows .mixedOrders=true) (hT:TysOk P T) (hG:GsOk P C.inv C.draws G) (hD:DsOk P C.inv C.draws D)
  (h:∀ args,C.pre args→args.length≤nt∧∀ n,(C.draws=true→n + C.cost≤lim)→∀ E:En,TbOk E { T:=T,G:=G,D:=D,draws:=C.draws,gl:=gl,M:=M }→∀ Q:Exit→St→Prop,(∀ st,retA T rs C args n .ret st→Q .ret st)→Aw E body (st0 nt args n) Q):Fine P f C :=
 fine_ofX gl hgl M hM [] mm_nil [] [] ex_nil hf hb hn hr hnm hm hT hG hD h
theorem fine_of {C:Con} (hf:P.funcs[f]? = some fn) (hb:fn.body=some body) (hn:fn.ntmps=nt) (hr:fn.results.toList=rs) (hnm:(fn.name == "runtime.NumGoroutine")=false)
  (hm:P.follows .mixedOrders=true) (hT:TysOk P T) (hG:GsOk P C.inv C.draws G) (hD:DsOk P C.inv C.draws D)
  (h:∀ args,C.pre args→args.length≤nt∧∀ n,(C.draws=true→n + C.cost≤lim)→∀ E:En,TbOk E { T:=T,G:=G,D:=D,draws:=C.draws }→∀ Q:Exit→St→Prop,(∀ st,retA T rs C args n .ret st→Q .ret st)→Aw E body (st0 nt args n) Q):Fine P f C :=
 fine_ofX [] gl_nil [] ms_nil [] mm_nil [] [] ex_nil hf hb hn hr hnm hm hT hG hD h
theorem fineM_of {C:ConM} (M:List ((TypeId × String) × FuncId)) (hM:MsOk P M) (MM:List (FuncId × (ConM × List (Nat × Nat) × List (Nat × Nat)))) (hMM:MMsOk P C.inv false MM) (X:List Nat) (EX:List (FuncId × ExG)) (hEX:ExsOk P EX) (hf:P.funcs[f]? = some fn) (hb:fn.body=some body) (hn:fn.ntmps=nt) (hr:fn.results.toList=rs) (hnm:(fn.name == "runtime.NumGoroutine")=false)
  (hm:P.follows .mixedOrders=true) (hT:TysOk P T) (hG:GsOk P C.inv false G) (hD:DsOk P C.inv false D)
  (h:∀ args m1,C.pre args m1→args.length≤nt∧∀ E:En,TbOk E { T:=T,G:=G,D:=D,draws:=false,lent:=true,M:=M,MM:=MM,X:=X,EX:=EX }→∀ Q:Exit→St→Prop,(∀ st,retM T rs C args m1 .ret st→Q .ret st)→Aw E body (stM nt args m1) Q):FineM P f C :=
 ⟨⟨fn,hf,by rw [hb];rfl,hnm⟩,valid_ofM hf hb hT fun args m1 ha=>by
  obtain ⟨h1,h2⟩:=h args m1 ha
  subst hn;subst hr
  have hr:∀ w:World,w.grownBy w (if false=true then some 0 else none):=fun w=>⟨rfl,rfl,rfl,Nat.le_refl _,fun _ _ _=>rfl⟩
  exact ⟨h1,fun E hE hD' hi _=>h2 E ⟨by rw [hE];exact hT,fun p hp=>by rw [hE];exact (hG p hp).1,fun p hp=>by rw [hE];exact (hD p hp).1,fun p hp w hw=>(hG p hp).2 w w 0 (hi w (by rw [hD'] at hw;exact hw)) (hr w),fun p hp w hw=>(hD p hp).2 w w 0 (hi w (by rw [hD'] at hw;exact hw)) (hr w),hD',fun _ h=>(by cases h),fun h=>(by cases h),by rw [hE];exact hm,by rw [hE];exact hM,
   fun p hp=>⟨by rw [hE];exact (hMM p hp).1,(hMM p hp).2.1,fun w hw=>(hMM p hp).2.2 w w 0 (hi w (by rw [hD'] at hw;exact hw)) (hr w)⟩,by rw [hE];exact hEX,fun _ h=>(by cases h)⟩ _ (fun _ h=>h)⟩⟩
def retD (T:List (TypeId × TyI)) (rs:List ResultVar) (own:Bool) (r:AV) (st:St):Prop :=
 match resL T st rs with
 | some (c,l)=>c∧(match own with | true=>((oneR l).xp []).1 | false=>(oneR l).er)=r
 | none=>False
theorem fine_detX {d:DFn} (gl:List (Nat × Value)) (hgl:GlOk d.inv false gl) (M:List ((TypeId × String) × FuncId)) (hM:MsOk P M) (MM:List (FuncId × (ConM × List (Nat × Nat) × List (Nat × Nat)))) (hMM:MMsOk P d.inv false MM) (X:List Nat) (EX:List (FuncId × ExG)) (hEX:ExsOk P EX) (hf:P.funcs[f]? = some fn) (hb:fn.body=some body) (hn:fn.ntmps=nt) (hr:fn.results.toList=rs) (hnm:(fn.name == "runtime.NumGoroutine")=false)
  (hm:P.follows .mixedOrders=true) (hT:TysOk P T) (hG:GsOk P d.inv false G) (hD:DsOk P d.inv false D)
  (h:∀ args c r,d.g args=some (c,r)→c→args.length≤nt∧∀ n,∀ E:En,TbOk E { T:=T,G:=G,D:=D,draws:=false,gl:=gl,M:=M,MM:=MM,X:=X,EX:=EX }→∀ Q:Exit→St→Prop,(∀ st,retD T rs d.own r st→Q .ret st)→Aw E body (st0 nt args n) Q):Fine P f d.con :=
 fine_ofX gl hgl M hM MM hMM X EX hEX hf hb hn hr hnm hm hT hG hD fun args ⟨c,r,hg,hc⟩=>by
  obtain ⟨h1,h2⟩:=h args c r hg hc
  refine ⟨h1,fun n hl E hE Q hQ=>h2 n E hE Q fun st hst=>hQ st ?_⟩
  unfold retD at hst
  cases hl':resL T st rs with
  | none=>rw [hl'] at hst;exact hst.elim
  | some p =>
   obtain ⟨c',l⟩:=p
   rw [hl'] at hst
   simp only at hst
   simp only [retA,hl']
   refine ⟨hst.1,fun e=>(by cases e),c,?_⟩
   rw [hg]
   have e2:=hst.2
   cases ho:d.own<;>rw [ho] at e2<;>simp only [DFn.con,ho,if_true,Bool.false_eq_true,if_false] at e2 ⊢<;>rw [e2]
theorem fine_detG {d:DFn} (gl:List (Nat × Value)) (hgl:GlOk d.inv false gl) (M:List ((TypeId × String) × FuncId)) (hM:MsOk P M) (hf:P.funcs[f]? = some fn) (hb:fn.body=some body) (hn:fn.ntmps=nt) (hr:fn.results.toList=rs) (hnm:(fn.name == "runtime.NumGoroutine")=false)
  (hm:P.follows .mixedOrders=true) (hT:TysOk P T) (hG:GsOk P d.inv false G) (hD:DsOk P d.inv false D)
  (h:∀ args c r,d.g args=some (c,r)→c→args.length≤nt∧∀ n,∀ E:En,TbOk E { T:=T,G:=G,D:=D,draws:=false,gl:=gl,M:=M }→∀ Q:Exit→St→Prop,(∀ st,retD T rs d.own r st→Q .ret st)→Aw E body (st0 nt args n) Q):Fine P f d.con :=
 fine_detX gl hgl M hM [] mm_nil [] [] ex_nil hf hb hn hr hnm hm hT hG hD h
theorem fine_det {d:DFn} (hf:P.funcs[f]? = some fn) (hb:fn.body=some body) (hn:fn.ntmps=nt) (hr:fn.results.toList=rs) (hnm:(fn.name == "runtime.NumGoroutine")=false)
  (hm:P.follows .mixedOrders=true) (hT:TysOk P T) (hG:GsOk P d.inv false G) (hD:DsOk P d.inv false D)
  (h:∀ args c r,d.g args=some (c,r)→c→args.length≤nt∧∀ n,∀ E:En,TbOk E { T:=T,G:=G,D:=D,draws:=false }→∀ Q:Exit→St→Prop,(∀ st,retD T rs d.own r st→Q .ret st)→Aw E body (st0 nt args n) Q):Fine P f d.con :=
 fine_detX [] gl_nil [] ms_nil [] mm_nil [] [] ex_nil hf hb hn hr hnm hm hT hG hD h
end
attribute [go_sem] lastE_snoc mapD memO evA clA itB keyA unsn_sn itOf mpT mapOf keyAV mpB isKey_c isKey_i isKey_s keyEq_c keyEq_i keyEq_s mbOk_nil mbK resK resU valV
attribute [go_sem] retD retM stM
theorem lib_fine {P:Program} {f:FuncId} {d:DFn} (hc:Callable P f)
  (h:∀ args c r,d.g args=some (c,r)→c→∃ (vs:List Value) (v:Value),args=vs.map AV.v∧(∀ c0:Gh,Rd c0 r v)∧∀ w,d.inv w→Calls P f vs.toArray w fun e w'=>e = .returned v∧w.grownBy w' none):Fine P f d.con:=by
 refine ⟨hc,?_⟩
 intro c args vs0 bv B n hsz hrd her hpre hinv hsx hs1 hdr
 obtain ⟨c1,r,hg,hc1⟩:=hpre
 obtain ⟨vs,v,rfl,hr,hcall⟩:=h args c1 r hg hc1
 have e:vs0=vs.toArray:=by
  apply Array.ext
  ·simpa using hsz
  ·intro i h1 h2
   have h3:i < vs.length:=by simpa using h2
   have:=hrd i (.v vs[i]) (by simp [h3])
   have e1:vs0.getD i undef=vs0[i]:=by simp [Array.getD_eq_getD_getElem?,h1]
   rw [e1] at this
   generalize vs0[i]=u at this
   cases this
   simp
 subst e
 refine (hcall c.w hinv).mono fun e w' ⟨he,hgr⟩=>⟨v,r,{ w:=w',S:=fun _ _=>False,β:=fun _=>0,tv:=fun _ _=>.slice none 0 0,te:=fun _ _=>0,g:=c.g },he,⟨c1,hg⟩,?_⟩
 exact { w:=rfl,g:=rfl,rd:=hr _,fr:=hgr,S:=fun _ _ h=>h.elim,sx:=fun _ _ h=>h.elim,s1:=fun _ _ _ h=>h.elim,tok:=fun _ _=>.inl rfl,toktok:=fun _ _ _ _ b hb=>by simp [Value.ownBlock] at hb,rk:=fun hd=>by cases hd }
theorem raw_fine {P : Program} {f : FuncId} {C : Con} (hc : Callable P f) (hd : C.draws = false)
    (h : ∀ (c : Gh) (args : List AV) (vs : Array Value), vs.size = args.length → (∀ j x, args[j]? = some x → Rd c x (vs.getD j undef)) → (∀ b o, c.S b o → Lk c.w b o) → C.pre args → C.inv c.w →
      Calls P f vs c.w fun e w' => ∃ (v : Value) (r : AV) (N : Nat → Nat → Prop), e = .returned v ∧ C.post args r ∧ c.w.grownBy w' none ∧ (∀ b o, N b o → c.w.heap.size ≤ b ∧ ∃ x, w'.cell? ⟨b, o, none⟩ = some x ∧ x.oneCell' = true) ∧
        Rd { w := w', S := fun b o => c.S b o ∨ N b o, β := fun _ => 0, tv := fun _ _ => .slice none 0 0, te := fun _ _ => 0, g := c.g } r v) : Fine P f C := by
  refine ⟨hc, ?_⟩
  intro c args vs bv B n hsz hrd her hpre hinv hsx hs1 hdr
  refine (h c args vs hsz hrd hsx hpre hinv).mono ?_
  rintro e w' ⟨v, r, N, rfl, hp, hg, hN, hr⟩
  have hkeep : Keeps c.w c.S w' c.S := keeps_of_lt (fun _ _ h => h) fun b o _ hb => hg.block b hb (by simp)
  refine ⟨v, r, { w := w', S := fun b o => c.S b o ∨ N b o, β := fun _ => 0, tv := fun _ _ => .slice none 0 0, te := fun _ _ => 0, g := c.g }, rfl, hp, ?_⟩
  exact { w := rfl, g := rfl, rd := hr, fr := by rw [hd]; exact hg,
          S := fun b o h => by
            rcases h with h | h
            · exact .inr h
            · exact .inl (hN b o h).1
          sx := fun b o h => by
            rcases h with h | h
            · exact hkeep.lk h (hsx b o h)
            · obtain ⟨x, hx, _⟩ := (hN b o h).2; exact .inl ⟨x, hx⟩
          s1 := fun b o v h hv => by
            rcases h with h | h
            · rcases hsx b o h with ⟨u, hu⟩ | ⟨rfl, es, ck, hb⟩
              · have h1 := (hkeep.1 b o u h hu).2
                have h2 : w'.cell? ⟨b, o, none⟩ = some v := hv
                rw [h1] at h2; obtain rfl := Option.some.inj h2
                exact hs1 b o u h hu
              · have h1 := (hkeep.2 b es ck h hb).2
                have h2 : w'.cell? ⟨b, 0, none⟩ = some v := hv
                simp [World.cell?, h1] at h2
            · obtain ⟨x, hx, h1⟩ := (hN b o h).2
              have h2 : w'.cell? ⟨b, o, none⟩ = some v := hv
              rw [hx] at h2; obtain rfl := Option.some.inj h2
              exact h1
          tok := fun _ _ => .inl rfl, toktok := fun _ _ _ _ b hb => by simp [Value.ownBlock] at hb, rk := fun hd' => by rw [hd] at hd'; cases hd' }

theorem grownBy_refl (w:World) (r:Option Nat):w.grownBy w r:=⟨rfl,rfl,rfl,Nat.le_refl _,fun _ _ _=>rfl⟩
theorem grownBy_grow (w:World) (n:Nat) (os:Array Obj):w.grownBy (Go.Sort.grow (w.drewN n) os) none :=
 ⟨rfl,rfl,rfl,by simp [Go.Sort.grow,World.drewN],fun i hi _=>by simp [Go.Sort.grow,World.drewN,Array.getElem?_append_left hi]⟩
theorem var_grown {P:Program} {w w':World} {name:String} {cs:Array Value} (h:w.grownBy w' none) (hv:w.var? P name=some cs):w'.var? P name=some cs:=by
 unfold World.var? at hv ⊢
 obtain ⟨g,hg,hv⟩:=Option.bind_eq_some_iff.1 hv
 rw [hg]
 simp only [Option.bind_some]
 have hl:g < w.heap.size:=by
  rcases Nat.lt_or_ge g w.heap.size with h | h
  ·exact h
  ·rw [Array.getElem?_eq_none h] at hv;cases hv
 rw [h.block g hl (by simp)]
 exact hv
theorem cell_grown {w w':World} {a:Addr} {v:Value} (h:w.grownBy w' none) (hv:w.cell? a=some v):w'.cell? a=some v :=
 (World.cell?_of_block (h.block a.block (World.block_lt_of_cell? w a hv) (by simp))).trans hv
def byteRows (bs:List Nat):List (List DV):=bs.map fun b:Nat=>[DV.v (.int .u8 (b:Int))]
def BytesAt (w:World) (v:Value):Prop :=
 v = .slice none 0 0∨(∃ cb off len cap,∃ f:Nat→Nat,v = .slice (some ⟨cb,off,none⟩) len cap∧len≤cap∧(0 < len→cb < w.heap.size)∧∀ k,k < len→f k < 256∧w.cell? ⟨cb,off + k,none⟩=some (.int .u8 (f k)))∨∃ a,v = .slice (some a) 0 0
def Opened (v:Value) (w:World) (e:Ending) (w':World):Prop :=
 ∃ g bv,e = .returned (.pointer (some ⟨g,0,none⟩))∧w.grownBy w' none∧w.heap.size≤g∧RK w' g bv w'.heap.size 0∧∀ b,bvB bv b→bvB v b
theorem bytesAt_of {w:World} {S:Nat→Nat→Prop} {bs:List Nat} (hbs:∀ b ∈ bs,b < 256) {v:Value} (h:RdD w S (.sl (byteRows bs)) v) :
  BytesAt w v∧∀ b,bvB v b→∃ o,S b o:=by
 generalize hx:DV.sl (byteRows bs)=x at h
 cases h with
 | ptr=>cases hx
 | ifc=>cases hx
 | fn=>cases hx
 | mp=>cases hx
 | v x h=>cases hx
 | nil=>exact ⟨.inl rfl,fun b ⟨_,_,_,h,_⟩=>by cases h⟩
 | em a=>exact ⟨.inr (.inr ⟨a,rfl⟩),fun b ⟨_,_,_,h,h0⟩=>by cases h;omega⟩
 | sl els b off n cap size f hn hcap hs hc hh =>
  obtain rfl:byteRows bs=els:=by simpa using hx
  have hsz:0 < n→size=1:=fun h0=>by
   have hl:0 < (byteRows bs).length:=by omega
   have:=hs _ (List.getElem_mem hl)
   rw [← this];simp [byteRows]
  have hrow:∀ k,k < n→∃ u:Nat,u < 256∧f k = .int .u8 u:=fun k hk=>by
   have h1:=hsz (by omega)
   have hkb:k < bs.length:=by rw [hn] at hk;simpa [byteRows] using hk
   have e1:(byteRows bs)[k]? = some [.v (.int .u8 ((bs[k]:Nat):Int))]:=by simp [byteRows,hkb]
   have:=hh k 0 _ _ e1 rfl
   rw [h1,Nat.mul_one,Nat.add_zero] at this
   refine ⟨bs[k],hbs _ (List.getElem_mem hkb),?_⟩
   generalize f k=u at this
   cases this;rfl
  refine ⟨.inr (.inl ⟨b,off,n,cap,fun k=>match f k with | .int _ u=>u.toNat | _=>0,rfl,hcap,fun h0=>?_,fun k hk=>?_⟩),?_⟩
  ·have:=(hc 0 (by rw [hsz h0];omega)).2
   exact World.block_lt_of_cell? w ⟨b,off + 0,none⟩ this
  ·obtain ⟨u,hu,he⟩:=hrow k hk
   have:=(hc k (by rw [hsz (by omega)];omega)).2
   simp only [this,he]
   exact ⟨by simpa using hu,by simp⟩
  ·rintro b' ⟨off',len',cap',he,h0⟩
   simp only [Value.slice.injEq,Option.some.injEq,Addr.mk.injEq,and_true] at he
   obtain ⟨⟨rfl,rfl⟩,rfl,rfl⟩:=he
   exact ⟨off + 0,(hc 0 (by rw [hsz h0];omega)).1⟩
def St.opened (st:St) (d:Nat):St:=St.put { nt:=st.nt,σ:=ntσ st.σ,m:=ntm st.m,rn:=0 } (some d) .rd
theorem R.opened {E : En} {st : St} {a : Act} {w : World} (h : R E st a w) {v : Value} {bs : List Nat} (hbs : ∀ b ∈ bs, b < 256) {x : Operand} (hx : (st.ev x).er = .sl none (byteRows bs)) (hv : a.eval x = v)
    {F : FuncId} (hF : ∀ w v, BytesAt w v → Calls E.P F #[v] w (Opened v w)) :
    Calls E.P F #[v] w fun e w' => ∃ u, e = .returned u ∧ w.grownBy w' none ∧ ∃ E' : En, E'.P = E.P ∧ E'.draws = true ∧ E'.w0 = w' ∧ (∀ b, E'.L b → E.w0.heap.size ≤ b ∨ E.L b) ∧ E.w0.heap.size ≤ E'.g ∧ (∀ b o, E'.S0 b o → E.w0.heap.size ≤ b ∨ E.S0 b o) ∧
      ∀ d, d < st.nt → R E' (st.opened d) (a.put (some d) u) w' := by
  obtain ⟨c, rfl, G, hσ, hnt, had⟩ := h
  have hrx : Rd c (.sl none (byteRows bs)) v := by
    have := (R.ev (c := c) (st := st) (a := a) hσ x).er (c := c) (c' := c) (Keeps.same (fun _ _ h => h) fun _ _ _ => rfl) rfl
    rw [hx, hv] at this; exact this
  have hrd : RdD c.w c.S (.sl (byteRows bs)) v := by
    cases hrx with
    | sl _ _ _ h _ => exact h
  obtain ⟨hb1, hb2⟩ := bytesAt_of hbs hrd
  refine (hF c.w v hb1).mono ?_
  rintro e w' ⟨g, bv, rfl, hgr, hg, hrk, hbv⟩
  refine ⟨_, rfl, hgr, ?_⟩
  let L : Nat → Prop := fun b => ∃ d ls, lkm d st.m = some ls ∧ c.β d = b
  let E' : En := { P := E.P, w0 := w', draws := true, g := g, bv := bv, S0 := c.S, L := L, b0 := c.β }
  have hold : ∀ k, k < c.w.heap.size → w'.heap[k]? = c.w.heap[k]? := fun k hk => hgr.block k hk (by simp)
  have hle := G.hle
  have hk : Keeps c.w c.S w' c.S := keeps_of_lt (fun _ _ h => h) fun b o _ hb => hold b hb
  refine ⟨E', rfl, rfl, rfl, ?_, by show _ ≤ g; omega, fun b o h => G.sS b o h, fun d hdn => ?_⟩
  · rintro b ⟨d, ls, hl, rfl⟩
    exact (G.box d ls hl).lt.1
  let c' : Gh := { w := w', S := c.S, β := c.β, tv := fun _ _ => .slice none 0 0, te := fun _ _ => 0, g := g }
  have hst : ∀ {x v}, Rd c x v → Rd c' x.nt v := fun h => h.nt (c' := c') hk rfl
  have G' : Good E' (ntm st.m) 0 c' := by
    refine { bl := fun _ _ => rfl, cg := rfl, fr := ⟨rfl, rfl, rfl, Nat.le_refl _, fun _ _ _ _ => rfl⟩, lx := fun _ b hb => ?_, sx := fun b o h => ?_, s1 := fun b o v hS hv => s1_keep G hk hS hv, sS := fun _ _ h => .inr h, sg := fun _ o h => ?_, box := fun k ls hl => ?_,
              boxinj := fun k k' l l' h1 h2 he => ?_, tok := fun _ _ => .inl rfl, toktok := fun _ _ _ _ b hb => by simp [c', Value.ownBlock] at hb, tokbox := fun _ _ b _ _ hb => by simp [c', Value.ownBlock] at hb, rk := fun _ => hrk }
    · obtain ⟨k, ls, hl, rfl⟩ := hb
      have := (G.box k ls hl).lt.2
      refine ⟨fun e => by have e' : c.β k = g := e; omega, fun h => ?_⟩
      obtain ⟨o, ho⟩ := hb2 _ (hbv _ h)
      obtain ⟨_, _, _, _, _, _, h5⟩ := G.box k ls hl
      exact h5 o ho
    · exact hk.lk h (G.sx b o h)
    · have := G.slt (b := g) h; omega
    · rw [lkm_nt, Option.map_eq_some_iff] at hl
      obtain ⟨l, hl, rfl⟩ := hl
      have hb := (G.box k l hl).lt
      obtain ⟨cs, T, b1, b2, b3, b4, b5⟩ := G.box k l hl
      refine ⟨cs, T, .inr ⟨k, l, hl, rfl⟩, (hold _ hb.2).trans b2, by simpa [ntAll_eq] using b3, fun j x hx => ?_, b5⟩
      rw [ntAll_eq, List.getElem?_map, Option.map_eq_some_iff] at hx
      obtain ⟨y, hy, rfl⟩ := hx
      exact hst (b4 j y hy)
    · rw [lkm_nt, Option.map_eq_some_iff] at h1 h2
      obtain ⟨l1, h1, _⟩ := h1
      obtain ⟨l2, h2, _⟩ := h2
      exact G.boxinj k k' _ _ h1 h2 he
  exact R.put (st := { nt := st.nt, σ := ntσ st.σ, m := ntm st.m, rn := 0 }) (c := c') rfl G' (fun x => by rw [lk_nt]; exact hst (hσ x)) hnt had .rd

attribute [go_sem] AV.nt AV.ntAll ntσ ntm St.opened
def AwR (E:En) (c:Code):Nat→St→(Exit→St→Prop)→Prop
 | 0,_,_=>False
 | n + 1,st,Q=>Aw E c st (thenA (fun st'=>AwR E c n st' Q) Q)
theorem awR_rounds {E:En} {c:Code} {Q:Exit→St→Prop}:∀ (n:Nat) (st:St),AwR E c n st Q→∀ a w,R E st a w→Code.rounds E.P c (fun e a' w'=>∃ st',R E st' a' w'∧Q e st') n a w
 | 0,st,h=>h.elim
 | n + 1,st,h=>by
  intro a w hr
  rw [rounds_succ]
  refine Go.wp_mono (h a w hr) fun e a' w' ⟨st',h1,h2⟩=>?_
  cases e with
  | normal=>exact awR_rounds n st' h2 a' w' h1
  | _=>exact ⟨st',h1,h2⟩
theorem Aw_unr {E:En} {c:Code} {st:St} {Q:Exit→St→Prop} (n:Nat) (h:AwR E c n st Q):Aw E (.loop c) st Q :=
 fun a w hr=>wp_loop_rounds n (awR_rounds n st h a w hr)
theorem Aw_rd {E:En} {c:Code} {st:St} {Q:Exit→St→Prop} {n:Nat} (h:∀ B:Exit→St→Prop,(∀ st',AwR E c n st' Q→B .normal st')→(∀ st',Q .ret st'→B .ret st')→(∀ k st',Q (.exit k) st'→B (.exit k) st')→Aw E c st B):AwR E c (n + 1) st Q :=
 h _ (fun _ h=>h) (fun _ h=>h) (fun _ _ h=>h)
end Go.Eng
namespace Go.Eng
open Go Go.RowKit
section
variable {E:En} {c:Operand} {x y:Code} {st:St} {Q:Exit→St→Prop}
theorem Aw_yes (hc:st.ev c = .v (.bool true)) (h:Aw E x st Q):Aw E (.cond c x y) st Q:=Aw_cond hc (fun _=>h) (fun e=>by cases e)
theorem Aw_no (hc:st.ev c = .v (.bool false)) (h:Aw E y st Q):Aw E (.cond c x y) st Q:=Aw_cond hc (fun e=>by cases e) (fun _=>h)
end
end Go.Eng
namespace Go.Eng
open Go Go.RowKit
end Go.Eng
namespace Go.Eng
open Go Go.RowKit
def swp (d d' k:Nat):Nat:=if k=d then d' else if k=d' then d else k
theorem swp_swp (d d' k:Nat):swp d d' (swp d d' k)=k:=by
 unfold swp
 by_cases h1:k=d
 ·subst h1
  by_cases h2:d'=k
  ·simp [h2]
  ·simp [h2]
 ·by_cases h2:k=d'
  ·subst h2;simp [h1]
  ·simp [h1,h2]
theorem swp_inj {d d' k k':Nat} (h:swp d d' k=swp d d' k'):k=k':=by
 rw [← swp_swp d d' k,h,swp_swp]
def swpTok (d d':Nat):Option (Nat × Nat × TypeId)→Option (Nat × Nat × TypeId)
 | some (k,j,e)=>some (swp d d' k,j,e)
 | none=>none
mutual
def AV.swp (d d':Nat):AV→AV
 | .v x=>.v x
 | .nl=>.nl
 | .sl t els=>.sl (swpTok d d' t) els
 | .agg ls=>.agg (AV.swpAll d d' ls)
 | .tup ls=>.tup (AV.swpAll d d' ls)
 | .cl f b ls=>.cl f b (AV.swpAll d d' ls)
 | .loc k off=>.loc k off
 | .xs k off n cap sz=>.xs k off n cap sz
 | .el ls=>.el ls
 | .rd=>.rd
 | .dv x=>.dv x
 | .mr k=>.mr k
 | .mb t=>.mb t
 | .junk=>.junk
def AV.swpAll (d d':Nat):List AV→List AV
 | []=>[]
 | x::l=>x.swp d d'::AV.swpAll d d' l
end
theorem AV.swpAll_eq (d d':Nat) (ls:List AV):AV.swpAll d d' ls=ls.map (·.swp d d'):=by
 induction ls with
 | nil=>rfl
 | cons x l ih=>simp [AV.swpAll,ih]
def swpσ (d d':Nat):List (Nat × AV)→List (Nat × AV)
 | []=>[]
 | (y,v)::l=>(y,v.swp d d')::swpσ d d' l
def swpm (d d':Nat):List (Nat × List AV)→List (Nat × List AV)
 | []=>[]
 | (y,v)::l=>(y,AV.swpAll d d' v)::swpm d d' l
theorem lk_swp (d d' x:Nat) (l:List (Nat × AV)):lk x (swpσ d d' l)=(lk x l).swp d d':=by
 induction l with
 | nil=>rfl
 | cons p l ih=>obtain ⟨y,v⟩:=p;simp only [swpσ,lk];split<;>simp [ih]
theorem lkm_swp (d d' x:Nat) (l:List (Nat × List AV)):lkm x (swpm d d' l)=(lkm x l).map (AV.swpAll d d'):=by
 induction l with
 | nil=>rfl
 | cons p l ih=>obtain ⟨y,v⟩:=p;simp only [swpm,lkm];split<;>simp [ih]
def St.swp (st:St) (d d':Nat):St:={ st with σ:=swpσ d d' st.σ,m:=swpm d d' st.m }
theorem Rd.swp {c:Gh} (d d':Nat) {x:AV} {v:Value} (h:Rd c x v):Rd { c with tv:=fun k=>c.tv (Eng.swp d d' k),te:=fun k=>c.te (Eng.swp d d' k) } (x.swp d d') v:=by
 induction h with
 | v x h=>exact .v x h
 | junk x=>exact .junk x
 | nl=>exact .nl
 | rd=>exact .rd
 | dv x v h=>exact .dv x v h
 | loc k off hb=>exact .loc k off hb
 | mr1 k hb=>exact .mr1 k hb
 | mr2 k hb=>exact .mr2 k hb
 | mb t=>exact .mb t
 | xs k off n cap sz hc hb=>exact .xs k off n cap sz hc hb
 | sl tok els v h ht =>
  refine .sl _ els v h ?_
  unfold swpTok TokC at *
  split at ht
  ·trivial
  ·simp only [swp_swp];exact ht
 | agg ls cs hn _ ih =>
  simp only [AV.swp,AV.swpAll_eq]
  refine .agg _ cs (by simpa using hn) fun j x hx=>?_
  obtain ⟨y,hy,rfl⟩:=by simpa using hx
  exact ih j y hy
 | tup ls cs hn _ ih =>
  simp only [AV.swp,AV.swpAll_eq]
  refine .tup _ cs (by simpa using hn) fun j x hx=>?_
  obtain ⟨y,hy,rfl⟩:=by simpa using hx
  exact ih j y hy
 | cl1 fu ls cs hn _ ih =>
  simp only [AV.swp,AV.swpAll_eq]
  refine .cl1 fu _ cs (by simpa using hn) fun j x hx=>?_
  obtain ⟨y,hy,rfl⟩:=by simpa using hx
  exact ih j y hy
 | cl2 fu ls cs hn _ ih =>
  simp only [AV.swp,AV.swpAll_eq]
  refine .cl2 fu _ cs (by simpa using hn) fun j x hx=>?_
  obtain ⟨y,hy,rfl⟩:=by simpa using hx
  exact ih j y hy
 | el ls b off f hc hh=>exact .el ls b off f hc hh
theorem Le_swp (st : St) (d d' : Nat) : Le st (st.swp d d') := by
  intro E a w ⟨c, h1, G, h3, h4, h5⟩
  refine ⟨{ c with tv := fun k => c.tv (swp d d' k), te := fun k => c.te (swp d d' k) }, h1, ?_, fun x => by show Rd _ (lk x (swpσ d d' st.σ)) _; rw [lk_swp]; exact (h3 x).swp d d', h4, h5⟩
  exact { bl := G.bl, cg := G.cg, fr := G.fr, lx := G.lx, sx := G.sx, s1 := G.s1, sS := G.sS, sg := G.sg,
          box := fun k ls hl => by
            have hl : lkm k (swpm d d' st.m) = some ls := hl
            rw [lkm_swp] at hl
            obtain ⟨l, hl2, rfl⟩ := Option.map_eq_some_iff.1 hl
            obtain ⟨cs, T, e1, e2, e3, e4, e5⟩ := G.box k l hl2
            refine ⟨cs, T, e1, e2, by simpa [AV.swpAll_eq] using e3, fun j x hx => ?_, e5⟩
            rw [AV.swpAll_eq, List.getElem?_map, Option.map_eq_some_iff] at hx
            obtain ⟨y, hy, rfl⟩ := hx
            exact (e4 j y hy).swp d d'
          boxinj := fun k k' l l' h1 h2 he => by
            have h1 : lkm k (swpm d d' st.m) = some l := h1
            have h2 : lkm k' (swpm d d' st.m) = some l' := h2
            rw [lkm_swp] at h1 h2
            obtain ⟨l1, h1, _⟩ := Option.map_eq_some_iff.1 h1
            obtain ⟨l2, h2, _⟩ := Option.map_eq_some_iff.1 h2
            exact G.boxinj k k' _ _ h1 h2 he
          tok := fun k j => G.tok (swp d d' k) j
          toktok := fun k j k' j' b h1 h2 => by
            obtain ⟨e1, e2⟩ := G.toktok _ _ _ _ b h1 h2
            exact ⟨swp_inj e1, e2⟩
          tokbox := fun k j b k' l hb h2 => by
            have h2 : lkm k' (swpm d d' st.m) = some l := h2
            rw [lkm_swp] at h2
            obtain ⟨l2, h2, _⟩ := Option.map_eq_some_iff.1 h2
            exact G.tokbox (swp d d' k) j b k' _ hb h2
          rk := G.rk }
theorem Le_tk {st st':St} (d d':Nat) (h:st.swp d d'=st'):Le st st':=h ▸ Le_swp st d d'
end Go.Eng
namespace Go.Eng
open Go Go.RowKit
theorem Le_rn {nt rn rn' : Nat} {σ : List (Nat × AV)} {m : List (Nat × List AV)} (h : rn ≤ rn') : Le ⟨nt, σ, m, rn⟩ ⟨nt, σ, m, rn'⟩ := by
  intro E a w ⟨c, h1, G, h3, h4, h5⟩
  refine ⟨c, h1, ?_, h3, h4, h5⟩
  exact { bl := G.bl, cg := G.cg, fr := G.fr, lx := G.lx, sx := G.sx, s1 := G.s1, sS := G.sS, sg := G.sg, box := G.box, boxinj := G.boxinj, tok := G.tok, toktok := G.toktok, tokbox := G.tokbox,
          rk := fun hd => by
            obtain ⟨h1, T, p, h2, h3, h4, h5⟩ := G.rk hd
            have h4 : p ≤ (rn : Int) := h4
            exact ⟨h1, T, p, h2, h3, by show p ≤ (rn' : Int); omega, h5⟩ }
end Go.Eng
namespace Go.Eng
open Go Go.RowKit
def LeE (E:En) (st st':St):Prop:=∀ a w,R E st a w→R E st' a w
theorem LeE.trans {E:En} {a b c:St} (h:LeE E a b) (k:LeE E b c):LeE E a c:=fun x w r=>k x w (h x w r)
theorem Aw.leE {E:En} {c:Code} {st st':St} {Q:Exit→St→Prop} (hl:LeE E st st') (h:Aw E c st' Q):Aw E c st Q:=fun a w hr=>h a w (hl a w hr)
theorem LeE_frz {E:En} {st:St} (hL:∀ b,¬ E.L b) (d n:Nat) {ls:List AV} (hl:lkm d st.m=some ls) {ys:List DV} (hy:DV.ofAll (ls.take n)=some ys) (hk0:bk d=0:=by decide):LeE E st (st.frz d ys):=fun _ _ h=>h.frzN hk0 (fun _ _=>hL _) hl hy
theorem Aw_frz {E:En} {tb:Tb} (hE:TbOk E tb) (ht:tb.lent=false) {c:Code} {st:St} {Q:Exit→St→Prop} (d n:Nat) {ls:List AV} (hl:lkm d st.m=some ls) {ys:List DV} (hy:DV.ofAll (ls.take n)=some ys) (h:Aw E c (st.frz d ys) Q) (hk0:bk d=0:=by decide):Aw E c st Q:=h.leE (LeE_frz (hE.nl ht) d n hl hy hk0)
theorem Aw_sqJ {E:En} {st:St} {Q:Exit→St→Prop} {x y:Code} {ι:Type} (F:ι→St) (p:ι→Prop) (hy:∀ i,p i→Aw E y (F i) Q) (h:∀ B:Exit→St→Prop,(∀ i st',p i→LeE E st' (F i)→B .normal st')→(∀ st',Q .ret st'→B .ret st')→(∀ k st',Q (.exit k) st'→B (.exit k) st')→Aw E x st B):Aw E (.seq x y) st Q :=
 Aw_seq (h _ (fun i st' hi hl=>fun a w hr=>hy i hi a w (hl a w hr)) (fun _ h=>h) (fun _ _ h=>h))
end Go.Eng
namespace Go.Eng
open Go Go.RowKit
def lfLe (x:AV):AV→Prop
 | .junk=>True
 | .sl none els'=>x.els=some els'
 | y=>x=y
theorem lfLe_ok {c:Gh} {x y:AV} {v:Value} (h:lfLe x y) (hr:Rd c x v):Rd c y v:=by
 unfold lfLe at h
 split at h
 ·exact .junk _
 ·exact .sl none _ v (hr.els h) trivial
 ·exact h ▸ hr
mutual
def avLe:AV→AV→Prop
 | .agg l,.agg l'=>avLeL l l'
 | .tup l,.tup l'=>avLeL l l'
 | x,y=>lfLe x y
def avLeL:List AV→List AV→Prop
 | [],[]=>True
 | x::l,y::l'=>avLe x y∧avLeL l l'
 | _,_=>False
end
mutual
theorem Rd.le {c:Gh} (x y:AV) (u:Value) (h:avLe x y) (hr:Rd c x u):Rd c y u:=by
 unfold avLe at h
 split at h
 ·rename_i l l'
  cases hr with
  | agg ls cs hn hh =>
   obtain ⟨h1,h2⟩:=Rd.leL _ _ h
   exact .agg l' cs (by omega) fun j y hy=>by
    obtain ⟨x,hx,h3⟩:=h2 j y hy
    exact h3 _ (hh j x hx)
 ·rename_i l l'
  cases hr with
  | tup ls cs hn hh =>
   obtain ⟨h1,h2⟩:=Rd.leL _ _ h
   exact .tup l' cs (by omega) fun j y hy=>by
    obtain ⟨x,hx,h3⟩:=h2 j y hy
    exact h3 _ (hh j x hx)
 ·exact lfLe_ok h hr
theorem Rd.leL {c:Gh}:∀ (l l':List AV),avLeL l l'→l'.length=l.length∧∀ (j:Nat) (y:AV),l'[j]? = some y→∃ x,l[j]? = some x∧∀ v,Rd c x v→Rd c y v
 | [],[],_=>⟨rfl,fun j y hy=>by simp at hy⟩
 | x::l,y::l',h=>by
  have h:avLe x y∧avLeL l l':=by simpa [avLeL] using h
  obtain ⟨i1,i2⟩:=Rd.leL _ _ h.2
  refine ⟨by simp [i1],fun j z hz=>?_⟩
  match j,hz with
  | 0,hz=>obtain rfl:=Option.some.inj hz;exact ⟨x,rfl,fun v hv=>Rd.le _ _ _ h.1 hv⟩
  | j + 1,hz=>exact i2 j z (by simpa using hz)
 | [],_::_,h=>by simp [avLeL] at h
 | _::_,[],h=>by simp [avLeL] at h
end
def wkσ (σ:List (Nat × AV)):List (Nat × AV)→Prop
 | []=>True
 | (d,y)::l=>avLe (lk d σ) y∧wkσ σ l
def wkm (m:List (Nat × List AV)):List (Nat × List AV)→Prop
 | []=>True
 | (d,ls)::l=>(match lkm d m with | some ls0=>avLeL ls0 ls | none=>False)∧wkm m l
theorem wkσ_ok {σ:List (Nat × AV)}:∀ {σ':List (Nat × AV)},wkσ σ σ'→∀ x,avLe (lk x σ) (lk x σ')
 | [],_,x=>by simp only [lk];cases lk x σ<;>simp [avLe,lfLe]
 | (d,y)::l,h,x=>by
  simp only [lk]
  split
  ·rename_i e;subst e;exact h.1
  ·exact wkσ_ok h.2 x
theorem wkm_ok {m:List (Nat × List AV)}:∀ {m':List (Nat × List AV)},wkm m m'→∀ k ls,lkm k m'=some ls→∃ l,lkm k m=some l∧avLeL l ls
 | [],_,k,ls,h=>by simp [lkm] at h
 | (d,y)::l,h,k,ls,hl=>by
  simp only [lkm] at hl
  split at hl
  ·rename_i e;subst e
   obtain rfl:=Option.some.inj hl
   have h1:=h.1
   split at h1
   ·rename_i ls0 h0;exact ⟨ls0,h0,h1⟩
   ·exact h1.elim
  ·exact wkm_ok h.2 k ls hl
theorem Le_wk {nt rn rn' : Nat} {σ σ' : List (Nat × AV)} {m m' : List (Nat × List AV)} (h : rn ≤ rn') (hs : wkσ σ σ') (hm : wkm m m') : Le ⟨nt, σ, m, rn⟩ ⟨nt, σ', m', rn'⟩ := by
  intro E a w hr
  obtain ⟨c, h1, G, h3, h4, h5⟩ := Le_rn h E a w hr
  refine ⟨c, h1, ?_, fun x => Rd.le _ _ _ (wkσ_ok hs x) (h3 x), h4, h5⟩
  exact { bl := G.bl, cg := G.cg, fr := G.fr, lx := G.lx, sx := G.sx, s1 := G.s1, sS := G.sS, sg := G.sg,
          box := fun d ls hl => by
            obtain ⟨l, h1, h2⟩ := wkm_ok hm d ls hl
            obtain ⟨cs, T, e1, e2, e3, e4, e5⟩ := G.box d l h1
            obtain ⟨i1, i2⟩ := Rd.leL (c := c) _ _ h2
            exact ⟨cs, T, e1, e2, by omega, fun j y hy => by
              obtain ⟨x, hx, h6⟩ := i2 j y hy
              exact h6 _ (e4 j x hx), e5⟩
          boxinj := fun d d' l l' e1 e2 he => by
            obtain ⟨l1, h1, _⟩ := wkm_ok hm d l e1
            obtain ⟨l2, h2, _⟩ := wkm_ok hm d' l' e2
            exact G.boxinj d d' l1 l2 h1 h2 he
          tok := G.tok, toktok := G.toktok
          tokbox := fun d j b k ls e1 e2 => by
            obtain ⟨l2, h2, _⟩ := wkm_ok hm k ls e2
            exact G.tokbox d j b k l2 e1 h2
          rk := G.rk }
attribute [go_sem] wkσ wkm avLe avLeL lfLe
end Go.Eng
end
section
namespace Go.Eng
open Go Go.RowKit
mutual
def AV.frzM (d:Nat) (t:List (Value × Value)):AV→AV
 | .v x=>.v x
 | .nl=>.nl
 | .sl t els=>.sl t els
 | .agg ls=>.agg (AV.frzMAll d t ls)
 | .tup ls=>.tup (AV.frzMAll d t ls)
 | .cl f b ls=>.cl f b (AV.frzMAll d t ls)
 | .loc k off=>.loc k off
 | .xs k off n cap sz=>.xs k off n cap sz
 | .el ls=>.el ls
 | .rd=>.rd
 | .dv x=>.dv x
 | .mr k=>if k=d then .dv (.mp t) else .mr k
 | .mb t=>.mb t
 | .junk=>.junk
def AV.frzMAll (d:Nat) (t:List (Value × Value)):List AV→List AV
 | []=>[]
 | x::l=>x.frzM d t::AV.frzMAll d t l
end
theorem frzMAll_eq (d:Nat) (t:List (Value × Value)) (ls:List AV):AV.frzMAll d t ls=ls.map (·.frzM d t):=by
 induction ls with
 | nil=>rfl
 | cons x l ih=>simp [AV.frzMAll,ih]
def frzMσ (d:Nat) (t:List (Value × Value)):List (Nat × AV)→List (Nat × AV)
 | []=>[]
 | (y,v)::l=>(y,v.frzM d t)::frzMσ d t l
def frzMm (d:Nat) (t:List (Value × Value)):List (Nat × List AV)→List (Nat × List AV)
 | []=>[]
 | (y,v)::l=>if d=y then frzMm d t l else (y,AV.frzMAll d t v)::frzMm d t l
theorem lk_frzM (d x:Nat) (t:List (Value × Value)) (l:List (Nat × AV)):lk x (frzMσ d t l)=(lk x l).frzM d t:=by
 induction l with
 | nil=>rfl
 | cons p l ih=>obtain ⟨y,v⟩:=p;simp only [frzMσ,lk];split<;>simp [ih]
theorem lkm_frzM (d x:Nat) (t:List (Value × Value)) (l:List (Nat × List AV)):lkm x (frzMm d t l)=if x=d then none else (lkm x l).map (AV.frzMAll d t):=by
 induction l with
 | nil=>simp [frzMm,lkm]
 | cons p l ih =>
  obtain ⟨y,v⟩:=p
  simp only [frzMm]
  by_cases h:d=y
  ·subst h
   rw [if_pos rfl,ih]
   by_cases hx:x=d
   ·simp [hx]
   ·simp only [lkm,if_neg hx]
  ·rw [if_neg h]
   simp only [lkm]
   by_cases hxy:x=y
   ·subst hxy;rw [if_pos rfl,if_pos rfl,if_neg (fun e=>h e.symm)];rfl
   ·rw [if_neg hxy,if_neg hxy,ih]
def St.frzM (st:St) (d:Nat) (t:List (Value × Value)):St:={ st with σ:=frzMσ d t st.σ,m:=frzMm d t st.m }
theorem Rd.frzM {c c':Gh} {d:Nat} {t:List (Value × Value)} (hb1:bk d=1) (hk:Keeps c.w c.S c'.w c'.S) (hg:c'.g=c.g) (hβ:c'.β=c.β) (htv:c'.tv=c.tv) (hte:c'.te=c.te)
  (hm:RdD c'.w c'.S (.mp t) (.map (some (c.β d)))) {x:AV} {v:Value} (h:Rd c x v):Rd c' (x.frzM d t) v:=by
 induction h with
 | v x h=>exact .v x h
 | junk x=>exact .junk x
 | nl=>exact .nl
 | rd=>simp only [AV.frzM];rw [← hg];exact .rd
 | dv x v h=>exact .dv x v (h.keep hk)
 | mr1 k hb =>
  simp only [AV.frzM]
  split
  ·rename_i e;subst e;exact .dv _ _ hm
  ·rw [← hβ];exact .mr1 k hb
 | mr2 k hb =>
  simp only [AV.frzM]
  split
  ·rename_i e;subst e;rw [hb1] at hb;cases hb
  ·rw [← hβ];exact .mr2 k hb
 | mb t=>exact .mb t
 | loc k off hb=>simp only [AV.frzM];rw [← hβ];exact .loc k off hb
 | xs k off n cap sz hcap hb=>simp only [AV.frzM];rw [← hβ];exact .xs k off n cap sz hcap hb
 | sl tok els v h ht =>
  refine .sl _ els v (h.keep hk) ?_
  unfold TokC at *
  split
  ·trivial
  ·simp only [htv,hte] at *;exact ht
 | agg ls cs hn _ ih =>
  simp only [AV.frzM,frzMAll_eq]
  refine .agg _ cs (by simpa using hn) fun j x hx=>?_
  obtain ⟨y,hy,rfl⟩:=by simpa using hx
  exact ih j y hy
 | tup ls cs hn _ ih =>
  simp only [AV.frzM,frzMAll_eq]
  refine .tup _ cs (by simpa using hn) fun j x hx=>?_
  obtain ⟨y,hy,rfl⟩:=by simpa using hx
  exact ih j y hy
 | cl1 fu ls cs hn _ ih =>
  simp only [AV.frzM,frzMAll_eq]
  refine .cl1 fu _ cs (by simpa using hn) fun j x hx=>?_
  obtain ⟨y,hy,rfl⟩:=by simpa using hx
  exact ih j y hy
 | cl2 fu ls cs hn _ ih =>
  simp only [AV.frzM,frzMAll_eq]
  refine .cl2 fu _ cs (by simpa using hn) fun j x hx=>?_
  obtain ⟨y,hy,rfl⟩:=by simpa using hx
  exact ih j y hy
 | el ls b off f hc hh=>exact .el ls b off f (fun k hkk=>hk.1 _ _ _ (hc k hkk).1 (hc k hkk).2) (fun j x hx=>(hh j x hx).keep hk)
theorem R.frzM {E : En} {st : St} {a : Act} {w : World} (h : R E st a w) {d : Nat} (hb : bk d = 1) (hL : ∀ c, Good E st.m st.rn c → ¬ E.L (c.β d)) {t : List (Value × Value)} (hl : lkm d st.m = some [.mb t]) : R E (st.frzM d t) a w := by
  obtain ⟨c, rfl, G, hσ, hnt, hd⟩ := h
  have hbox := G.box d _ hl
  obtain ⟨es, ck, g1, g2⟩ := map_box hbox hb
  obtain ⟨_, _, b1, _, _, _, _⟩ := hbox
  have hB : E.w0.heap.size ≤ c.β d := by
    rcases b1 with h | h
    · exact h
    · exact absurd h (hL c G)
  let c' : Gh := { c with S := fun b o => c.S b o ∨ (b = c.β d ∧ o = 0) }
  have hk : Keeps c.w c.S c'.w c'.S := Keeps.same (fun _ _ h => .inl h) fun _ _ _ => rfl
  have hm : RdD c'.w c'.S (.mp t) (.map (some (c.β d))) := .mp t (c.β d) es ck (.inr ⟨rfl, rfl⟩) g1 g2
  have hst : ∀ {x v}, Rd c x v → Rd c' (x.frzM d t) v := fun h => h.frzM (c' := c') hb hk rfl rfl rfl rfl hm
  refine ⟨c', rfl, ?_, fun x => by show Rd c' (lk x (frzMσ d t st.σ)) _; rw [lk_frzM]; exact hst (hσ x), hnt, hd⟩
  exact { bl := G.bl, cg := G.cg, fr := G.fr, lx := G.lx,
          sx := fun b o h => by
            rcases h with h | ⟨rfl, rfl⟩
            · exact G.sx b o h
            · exact .inr ⟨rfl, es, ck, g1⟩
          s1 := fun b o v h hv => by
            rcases h with h | ⟨rfl, rfl⟩
            · exact G.s1 b o v h hv
            · have hv' : c.w.cell? ⟨c.β d, 0, none⟩ = some v := hv
              simp [World.cell?, g1] at hv'
          sS := fun b o h => by
            rcases h with h | ⟨rfl, h⟩
            · exact G.sS b o h
            · exact .inl hB
          sg := fun hdd o h => by
            rcases h with h | ⟨h, _⟩
            · exact G.sg hdd o h
            · have := (G.rk hdd).1; omega
          box := fun k ls' hl' => by
            have hl' : lkm k (frzMm d t st.m) = some ls' := hl'
            rw [lkm_frzM] at hl'
            split at hl'
            · cases hl'
            · rename_i hne
              obtain ⟨l, hl2, rfl⟩ := Option.map_eq_some_iff.1 hl'
              obtain ⟨cs', T', e1, e2, e3, e4, e5⟩ := G.box k l hl2
              refine ⟨cs', T', e1, e2, by simpa [frzMAll_eq] using e3, fun j x hx => ?_, fun o h => ?_⟩
              · rw [frzMAll_eq, List.getElem?_map, Option.map_eq_some_iff] at hx
                obtain ⟨y, hy', rfl⟩ := hx
                exact hst (e4 j y hy')
              · rcases h with h | ⟨h, _⟩
                · exact e5 o h
                · exact hne (G.boxinj k d l _ hl2 hl h)
          boxinj := fun k k' l l' h1 h2 he => by
            have h1 : lkm k (frzMm d t st.m) = some l := h1
            have h2 : lkm k' (frzMm d t st.m) = some l' := h2
            rw [lkm_frzM] at h1 h2
            split at h1
            · cases h1
            · split at h2
              · cases h2
              · obtain ⟨l1, h1, _⟩ := Option.map_eq_some_iff.1 h1
                obtain ⟨l2, h2, _⟩ := Option.map_eq_some_iff.1 h2
                exact G.boxinj k k' _ _ h1 h2 he
          tok := fun k j => tok_keep (G.tok k j) rfl rfl fun b hb => ⟨rfl, fun o h => by
            rcases h with h | ⟨h, _⟩
            · exact h
            · exact absurd h.symm (G.tokbox k j b d _ hb hl)⟩
          toktok := G.toktok
          tokbox := fun k j b k' l hb h2 he => by
            have h2 : lkm k' (frzMm d t st.m) = some l := h2
            rw [lkm_frzM] at h2
            split at h2
            · cases h2
            · obtain ⟨l2, h2, _⟩ := Option.map_eq_some_iff.1 h2
              exact G.tokbox k j b k' _ hb h2 he
          rk := G.rk }
theorem LeE_frzM {E:En} {tb:Tb} (hE:TbOk E tb) {st:St} (d:Nat) {t:List (Value × Value)} (hl:lkm d st.m=some [.mb t]) (hf:frzOk tb d st.m) (hb:bk d=1:=by decide):LeE E st (st.frzM d t):=fun _ _ h=>h.frzM hb (frzOk_ok hE hl hf) hl
theorem Aw_frzM {E:En} {tb:Tb} (hE:TbOk E tb) {c:Code} {st:St} {Q:Exit→St→Prop} (d:Nat) {t:List (Value × Value)} (hl:lkm d st.m=some [.mb t]) (hf:frzOk tb d st.m) (h:Aw E c (st.frzM d t) Q) (hb:bk d=1:=by decide):Aw E c st Q:=h.leE (LeE_frzM hE d hl hf hb)
attribute [go_sem] AV.frzM AV.frzMAll frzMσ frzMm St.frzM
structure Mk where
 F:Nat→Bool
 c:Prop
 p:AV→(Nat→Option (List AV))→Prop
def mkC (C:ConM) (φ:List (Nat × Nat)) (args:List AV):Mk :=
 ⟨fun k=>hasR k φ,okN [] φ∧C.pre args [],fun r n=>∃ r0 m2,C.post args [] r0 m2∧r=r0.mvn (fun cn=>nlk cn φ)∧n=fun k=>lkm k (backM (fun cn=>nlk cn φ) m2 [] φ)⟩
def mkr (tb:Tb) (o:Oper) (ev:Operand→AV):Option Mk:=match o.op with
 | .alloc t=>match o.dst,tyk t tb.T with
  | some d,some i=>some ⟨fun k=>k == d,d < 920,fun r n=>r = .loc d 0∧n=fun k=>if k=d then some (AV.stripLAll d (i.zero.map leafOf)) else none⟩
  | _,_=>none
 | .call c=>match c.callee with
  | .value (.func f)=>match mmk f tb.MM with
   | some (C,_,φ0)=>match rhoA 1000 (c.args.toList.map ev) with
    | []=>some (mkC C (shf (dN o.dst) φ0) (c.args.toList.map fun x=>(ev x).mvn fun k=>nlkR k []))
    | _=>none
   | none=>none
  | _=>none
 | _=>none
def isMkO (tb:Tb) (o:Op):Bool:=match o with
 | .alloc _=>true
 | .call c=>match c.callee with
  | .value (.func f)=>(mmk f tb.MM).isSome
  | _=>false
 | _=>false
def isMk (tb:Tb) (o:Oper):Bool:=o.guard.isNone && isMkO tb o.op
def isRd (o:Oper):Bool:=o.guard.isNone && (match o.op with | .fieldAddr _ _ _=>true | .load _ _=>true | _=>false)
def FS.mk' (s:FS) (dst:Option Nat) (r:AV) (F:Nat→Bool) (n:Nat→Option (List AV)):FS :=
 FS.upd { nt:=s.nt,σ:=fun x=>(s.σ x).stripF F,m:=fun k=>if F k then n k else (s.m k).map (AV.stripFAll F),rn:=s.rn } dst r 0
structure ClF (D:List Nat) (F:Nat→Bool) (s:FS):Prop where
 σ:∀ x,x ∈ D∨(s.σ x).stripF F=s.σ x
 m:∀ k ls,s.m k=some ls→F k=false∧AV.stripFAll F ls=ls
def mksem (D:List Nat) (tb:Tb) (o:Oper) (s:FS) (K:FS→Prop):Prop :=
 ∃ q,mkr tb o s.ev=some q∧q.c∧(∃ r n,q.p r n)∧ClF D q.F s∧∀ r n,q.p r n→K (s.mk' o.dst r q.F n)
def osD (D:List Nat) (tb:Tb) (ops:Array Oper) (o:Oper) (s:FS) (K:FS→Prop):Prop :=
 if isMk tb o then mksem D tb o s K else osem tb ops o s K
theorem mkr_congr (tb:Tb) (o:Oper) {ev ev':Operand→AV} (h:∀ x ∈ o.op.operands,ev x=ev' x):mkr tb o ev=mkr tb o ev':=by
 unfold mkr
 split
 ·rfl
 ·rename_i c ho
  have hh:∀ x ∈ c.args.toList,ev x=ev' x:=fun x hx=>h x (by rw [ho];simp [Op.operands,Call.operands];exact .inr (by simpa using hx))
  have e:(c.args.toList.map fun x=>(ev x).mvn fun k=>nlkR k [])=c.args.toList.map fun x=>(ev' x).mvn fun k=>nlkR k []:=List.map_congr_left fun x hx=>by rw [hh x hx]
  have e2:c.args.toList.map ev=c.args.toList.map ev':=List.map_congr_left fun x hx=>hh x hx
  simp only [e,e2]
 ·rfl
theorem dop_mono {T:List (TypeId × TyI)} {gl:List (Nat × Value)} {o:Op} {ev:Operand→AV} {m m':Nat→Option (List AV)} (hm:∀ k ls,m k=some ls→m' k=some ls) {q} (h:dop T gl o ev m=some q):dop T gl o ev m'=some q:=by
 cases o
 case load t x =>
  simp only [dop] at h ⊢
  split at h
  ·split at h
   ·rename_i ls hl
    simp only [*,hm _ _ hl]
   ·cases h
  all_goals (first | (cases h;done) | simp only [*])
 case binOp op t x y t' =>
  cases y with
  | const v=>cases v<;>first | exact h | (rename_i p;cases p<;>exact h)
  | _=>exact h
 case unOp op t x=>cases op<;>exact h
 case slice t x lo hi mx=>cases mx<;>first | exact h | (cases lo<;>cases hi<;>exact h)
 case lookup t x ix ck =>
  simp only [dop] at h ⊢
  have hmp:∀ tb,mapD m (ev x)=some tb→mapD m' (ev x)=some tb:=by
   intro tb hx
   cases e:ev x<;>rw [e] at hx<;>first | (cases hx;done) | skip
   ·rename_i y
    cases y<;>first | (cases hx;done) | exact hx
   ·rename_i d
    simp only [mapD] at hx ⊢
    split at hx
    ·rename_i hl;rw [hm _ _ hl];exact hx
    ·cases hx
  split at h
  ·rename_i kd z tb k h1 h2 h3
   rw [h1,hmp _ h2,h3];exact h
  ·cases h
 all_goals exact h
theorem fres_mono {tb:Tb} {o:Op} {ev:Operand→AV} {m m':Nat→Option (List AV)} (hm:∀ k ls,m k=some ls→m' k=some ls) {q} (h:fres tb o ev m=some q):fres tb o ev m'=some q:=by
 have hd:dres tb o ev m=some q→dres tb o ev m'=some q:=by
  intro h
  unfold dres at h ⊢
  have:∀ r,dopD tb.T tb.gl o ev m=some r→dopD tb.T tb.gl o ev m'=some r:=by
   intro r hr
   unfold dopD at hr ⊢
   split at hr
   ·exact hr
   ·exact dop_mono hm hr
  split at h
  ·rename_i c r hr
   rw [this _ hr];exact h
  ·cases h
 unfold fres at h ⊢
 split at h
 ·rename_i c
  split at h
  ·exact h
  ·exact h
  ·exact hd h
 ·exact hd h
theorem gres_mono {tb:Tb} {ops:Array Oper} {o:Oper} {s s':FS} {q:Res} (hn:s'.nt=s.nt) (hσ:∀ z ∈ o.looksAt ops,s'.σ z=s.σ z) (hm:∀ k ls,s.m k=some ls→s'.m k=some ls) (h:gres tb ops o s=some q):gres tb ops o s'=some q:=by
 have he:∀ x ∈ o.op.operands,s'.ev x=s.ev x:=fun x hx=>by
  cases x with
  | tmp t=>exact hσ t (by
    simp only [Oper.looksAt,List.mem_append,List.mem_filterMap]
    exact .inl ⟨_,by simpa using hx,rfl⟩)
  | _=>rfl
 have hf:∀ q,fres tb o.op s.ev s.m=some q→fres tb o.op s'.ev s'.m=some q:=fun q hq=>by
  rw [fres_congr tb o.op s'.m he]
  exact fres_mono hm hq
 unfold gres at h ⊢
 cases hg:o.guard with
 | none=>simp only [hg] at h ⊢;exact hf _ h
 | some jw =>
  obtain ⟨j,want⟩:=jw
  simp only [hg] at h ⊢
  cases hb:(ops[j]?).bind (·.dst) with
  | none=>simp only [hb] at h;cases h
  | some d =>
   have hd:s'.σ d=s.σ d:=hσ d (by simp [Oper.looksAt,hg,hb])
   simp only [hb] at h ⊢
   rw [hd,hn]
   cases hz:s.σ d with
   | v u =>
    cases u with
    | bool b =>
     simp only [hz] at h ⊢
     by_cases hlt:d < s.nt
     ·rw [if_pos hlt] at h ⊢
      by_cases hbw:b=want
      ·rw [if_pos hbw] at h ⊢;exact hf _ h
      ·rw [if_neg hbw] at h ⊢;exact h
     ·rw [if_neg hlt] at h;cases h
    | _=>simp [hz] at h
   | tup ls =>
    cases ls with
    | nil=>simpa [hz] using h
    | cons=>simp [hz] at h
   | _=>simp [hz] at h
theorem mk'_σ {s:FS} {dst:Option Nat} {r:AV} {F:Nat→Bool} {n:Nat→Option (List AV)} {z:Nat} (h:dst≠some z):(s.mk' dst r F n).σ z=(s.σ z).stripF F:=by
 unfold FS.mk' FS.upd
 cases dst with
 | none=>rfl
 | some d =>
  simp only
  split
  ·show (if z=d then r else _)=_
   rw [if_neg (fun e=>h (by rw [e]))]
  ·rfl
theorem upd_σ {s:FS} {dst:Option Nat} {r:AV} {k z:Nat} (h:dst≠some z):(s.upd dst r k).σ z=s.σ z:=by
 unfold FS.upd
 cases dst with
 | none=>rfl
 | some d =>
  simp only
  split
  ·show (if z=d then r else _)=_
   rw [if_neg (fun e=>h (by rw [e]))]
  ·rfl
theorem mswapA {tb:Tb} {ops:Array Oper} {D:List Nat} {y o:Oper} {s:FS} {K:FS→Prop} (hap:Oper.apart ops y o=true) (hap':Oper.apart ops o y=true)
  (hD:∀ d ∈ D,d ∉ y.looksAt ops∧y.dst≠some d) (hs:∀ d,y.dst=some d→d ∉ y.looksAt ops) (h:fsem tb ops y s fun s'=>mksem D tb o s' K):mksem (y.dst.toList++D) tb o s fun s'=>fsem tb ops y s' K:=by
 obtain ⟨a1,a2,a3⟩:=Oper.apart_spec hap
 obtain ⟨b1,b2,b3⟩:=Oper.apart_spec hap'
 obtain ⟨q,h1,h2,⟨r0,h3⟩,h4,h5⟩:=h
 have hev:∀ r,∀ x ∈ o.op.operands,(s.upd y.dst r q.k).ev x=s.ev x:=fun r x hx=>upd_ev fun d hd=>looksAt_op (a1 d hd) x hx
 obtain ⟨qm,g1,g2,g3,g4,g5⟩:=h5 r0 h3
 have g1':mkr tb o s.ev=some qm:=by rw [← g1];exact (mkr_congr tb o (hev r0)).symm
 refine ⟨qm,g1',g2,g3,⟨fun x=>?_,fun k ls hk=>g4.m k ls hk⟩,fun r n hp=>?_⟩
 ·by_cases hx:y.dst=some x
  ·exact .inl (by simp [hx])
  ·rcases g4.σ x with hc | hc
   ·exact .inl (by simp [hc])
   ·rw [upd_σ hx] at hc;exact .inr hc
 ·have hm:∀ k ls,s.m k=some ls→(s.mk' o.dst r qm.F n).m k=some ls:=fun k ls hk=>by
   obtain ⟨e1,e2⟩:=g4.m k ls hk
   show (if qm.F k then n k else (s.m k).map (AV.stripFAll qm.F))=some ls
   rw [e1,hk];simp [e2]
  have hσ:∀ z ∈ y.looksAt ops,(s.mk' o.dst r qm.F n).σ z=s.σ z:=fun z hz=>by
   rw [mk'_σ (fun e=>b1 z e hz)]
   have hyz:y.dst≠some z:=fun e=>hs z e hz
   rcases g4.σ z with hc | hc
   ·exact absurd hz (hD z hc).1
   ·rwa [upd_σ hyz] at hc
  refine ⟨q,gres_mono (s:=s) rfl hσ hm h1,h2,⟨r0,h3⟩,h4,fun x hx=>?_⟩
  obtain ⟨qm2,k1,k2,k3,k4,k5⟩:=h5 x hx
  rw [mkr_congr tb o (hev x),g1'] at k1
  obtain rfl:=Option.some.inj k1
  have:=k5 r n hp
  have e:(s.mk' o.dst r qm.F n).upd y.dst x q.k=(s.upd y.dst x q.k).mk' o.dst r qm.F n:=by
   unfold FS.mk'
   rw [upd_comm _ _ _ _ _ _ _ (fun d hd e=>a2 d e hd)]
   congr 1
   have hst:∀ d,y.dst=some d→d < s.nt→x.stripF qm.F=x:=fun d hd hlt=>by
    rcases k4.σ d with hc | hc
    ·exact absurd hd (hD d hc).2
    ·unfold FS.upd at hc;simp only [hd,hlt,if_true] at hc;exact hc
   unfold FS.upd
   cases hyd:y.dst with
   | none=>rfl
   | some d =>
    simp only
    congr 1
    by_cases hlt:d < s.nt
    ·simp only [hlt,if_true]
     funext z
     by_cases hz:z=d
     ·simp only [hz,if_true];exact (hst d hyd hlt).symm
     ·simp only [hz,if_false]
    ·simp only [hlt,if_false]
  rw [e];exact this
theorem stripF_toAV (F:Nat→Bool) (x:DV):x.toAV.stripF F=x.toAV:=by
 cases x<;>rfl
theorem rd_clean {tb:Tb} {ops:Array Oper} {y:Oper} {s:FS} {F:Nat→Bool} (hc:ClF [] F s) (hy:isRd y=true) {q:Res} (h:gres tb ops y s=some q):∀ x,q.p x→x.stripF F=x:=by
 simp only [isRd,Bool.and_eq_true,Option.isNone_iff_eq_none] at hy
 obtain ⟨hg,hy⟩:=hy
 unfold gres at h
 rw [hg] at h
 simp only at h
 have hev:∀ z,(s.ev z).stripF F=s.ev z:=fun z=>by
  cases z with
  | tmp t=>exact (hc.σ t).resolve_left (by simp)
  | const u =>
   have hl:∀ v,(leafOf v).stripF F=leafOf v:=fun v=>by unfold leafOf;split<;>rfl
   have hla:∀ l:List Value,AV.stripFAll F (l.map leafOf)=l.map leafOf:=fun l=>by
    rw [stripFAll_eq,List.map_map];exact List.map_congr_left fun v _=>hl v
   show (AV.ofVal u).stripF F=AV.ofVal u
   unfold AV.ofVal
   split
   ·simp only [AV.stripF,hla]
   ·first | simp only [AV.stripF,hla] | exact hl _ | rfl
   all_goals first | rfl | exact hl _
  | global g=>rfl
  | func f=>rfl
 have hsub:∀ ls,AV.stripFAll F ls=ls↔∀ x ∈ ls,x.stripF F=x:=fun ls=>by
  rw [stripFAll_eq]
  constructor
  ·intro h x hx
   obtain ⟨i,hi⟩:=List.mem_iff_getElem?.1 hx
   have:=congrArg (fun l=>l[i]?) h
   simp only [List.getElem?_map,hi,Option.map_some] at this
   exact Option.some.inj this
  ·intro h
   conv=>rhs;rw [← List.map_id ls]
   exact List.map_congr_left fun x hx=>h x hx
 have hld:∀ i ls c r,AV.stripFAll F ls=ls→ld i ls=some (c,r)→r.stripF F=r:=by
  intro i ls c r hls h
  unfold ld at h
  split at h
  ·rename_i r' hr
   obtain ⟨_,rfl⟩:=Prod.mk.inj (Option.some.inj h)
   have hm:=(hsub ls).1 hls
   unfold ldL at hr
   split at hr
   ·split at hr
    ·obtain rfl:=Option.some.inj hr
     simp only [AV.stripF]
     rw [(hsub _).2 fun x hx=>hm x (List.mem_of_mem_take hx)]
    ·cases hr
   ·exact hm _ (List.mem_of_mem_head? hr)
  ·cases h
 have hp:∀ c r,dopD tb.T tb.gl y.op s.ev s.m=some (c,r)→r.stripF F=r:=by
  intro c r h
  cases ho:y.op with
  | fieldAddr t z k =>
   rw [ho] at h
   simp only [dopD,dop] at h
   have hz:=hev z
   split at h
   ·rename_i d o off fi e1 e2
    rw [e1] at hz
    obtain ⟨_,rfl⟩:=Prod.mk.inj (Option.some.inj h)
    simp only [AV.stripF] at hz ⊢
    split
    ·rename_i hf;rw [if_pos hf] at hz;cases hz
    ·rfl
   ·obtain ⟨_,rfl⟩:=Prod.mk.inj (Option.some.inj h);rfl
   ·cases h
  | lookup t x ix ck =>
   rw [ho] at h
   simp only [dopD,dop] at h
   split at h
   ·rename_i kd z tb k _ _ _
    obtain ⟨_,rfl⟩:=Prod.mk.inj (Option.some.inj h)
    rcases resK_or kd ck z (fndT kd k tb) with e | e<;>rw [e]<;>cases fndT kd k tb<;>cases ck<;>rfl
   ·cases h
  | load t z =>
   rw [ho] at h
   simp only [dopD,dop] at h
   split at h
   ·split at h
    ·rename_i ls hl
     refine hld _ _ _ _ ?_ h
     rw [hsub]
     exact fun x hx=>(hsub ls).1 (hc.m _ _ hl).2 x (List.mem_of_mem_drop hx)
    ·cases h
   ·refine hld _ _ _ _ ?_ h
    rw [hsub]
    intro x hx
    obtain ⟨u,_,rfl⟩:=List.mem_map.1 hx
    exact stripF_toAV F u
   ·split at h
    ·obtain ⟨_,rfl⟩:=Prod.mk.inj (Option.some.inj h);rfl
    ·cases h
   ·cases h
  | _=>rw [ho] at hy;cases hy
 intro x hx
 have hd:dres tb y.op s.ev s.m=some q→x.stripF F=x:=by
  intro h
  unfold dres at h
  split at h
  ·rename_i c r hr
   obtain rfl:=Option.some.inj h
   subst hx
   exact hp _ _ hr
  ·cases h
 unfold fres at h
 split at h
 ·rename_i c ho;rw [ho] at hy;cases hy
 ·exact hd h
theorem mswapB {tb:Tb} {ops:Array Oper} {y o:Oper} {s:FS} {K:FS→Prop} (hy:isRd y=true) (hap:Oper.apart ops o y=true) (hap':Oper.apart ops y o=true)
  (h:mksem [] tb o s fun s'=>fsem tb ops y s' K):fsem tb ops y s fun s'=>mksem [] tb o s' K:=by
 obtain ⟨a1,a2,a3⟩:=Oper.apart_spec hap
 obtain ⟨b1,b2,b3⟩:=Oper.apart_spec hap'
 obtain ⟨qm,g1,g2,⟨r0,n0,g3⟩,g4,g5⟩:=h
 have hgr:∀ r n,gres tb ops y (s.mk' o.dst r qm.F n)=gres tb ops y s:=by
  intro r n
  have he:∀ x ∈ y.op.operands,(s.mk' o.dst r qm.F n).ev x=s.ev x:=fun x hx=>by
   cases x with
   | tmp t =>
    have ht:t ∈ y.looksAt ops:=by
     simp only [Oper.looksAt,List.mem_append,List.mem_filterMap]
     exact .inl ⟨_,by simpa using hx,rfl⟩
    show (s.mk' o.dst r qm.F n).σ t=s.σ t
    rw [mk'_σ (fun e=>a1 t e ht)]
    exact (g4.σ t).resolve_left (by simp)
   | _=>rfl
  simp only [isRd,Bool.and_eq_true,Option.isNone_iff_eq_none] at hy
  obtain ⟨hg,hy⟩:=hy
  unfold gres
  rw [hg]
  simp only
  rw [fres_congr tb y.op _ he]
  have hd:dopD tb.T tb.gl y.op s.ev (s.mk' o.dst r qm.F n).m=dopD tb.T tb.gl y.op s.ev s.m:=by
   cases ho:y.op with
   | fieldAddr t z k=>rfl
   | load t z =>
    simp only [dopD,dop]
    have hz:(s.ev z).stripF qm.F=s.ev z:=by
     have:=hy
     cases z with
     | tmp t=>exact (g4.σ t).resolve_left (by simp)
     | const u =>
      show (AV.ofVal u).stripF qm.F=AV.ofVal u
      have hl:∀ v,(leafOf v).stripF qm.F=leafOf v:=fun v=>by unfold leafOf;split<;>rfl
      unfold AV.ofVal
      split
      ·simp only [AV.stripF,stripFAll_eq,List.map_map]
       congr 1
       exact List.map_congr_left fun v _=>hl v
      ·exact hl _
     | global g=>rfl
     | func f=>rfl
    split
    ·rename_i d off i e1 e2
     rw [e1] at hz
     have hd:qm.F d=false:=by
      simp only [AV.stripF] at hz
      split at hz
      ·cases hz
      ·rename_i hf;simpa using hf
     have:(s.mk' o.dst r qm.F n).m d=s.m d:=by
      show (if qm.F d then n d else (s.m d).map (AV.stripFAll qm.F))=s.m d
      rw [hd]
      cases hs:s.m d with
      | none=>rfl
      | some ls=>simp [(g4.m d ls hs).2]
     rw [this]
    all_goals rfl
   | _=>rw [ho] at hy;cases hy
  have hdr:dres tb y.op s.ev (s.mk' o.dst r qm.F n).m=dres tb y.op s.ev s.m:=by unfold dres;rw [hd]
  unfold fres
  split
  ·rename_i c ho;rw [ho] at hy;cases hy
  ·exact hdr
 obtain ⟨q,h1,h2,h3,h4,_⟩:=g5 r0 n0 g3
 rw [hgr] at h1
 refine ⟨q,h1,h2,h3,h4,fun x hx=>?_⟩
 have hst:=rd_clean g4 hy h1 x hx
 have hev:mkr tb o (s.upd y.dst x q.k).ev=mkr tb o s.ev:=mkr_congr tb o fun z hz=>upd_ev fun d hd=>looksAt_op (b1 d hd) z hz
 refine ⟨qm,by rw [hev];exact g1,g2,⟨r0,n0,g3⟩,⟨fun z=>.inr ?_,fun k ls hk=>g4.m k ls hk⟩,fun r n hp=>?_⟩
 ·have hz:=(g4.σ z).resolve_left (by simp)
  unfold FS.upd
  cases hyd:y.dst with
  | none=>exact hz
  | some d =>
   simp only
   split
   ·show AV.stripF qm.F (if z=d then x else s.σ z)=(if z=d then x else s.σ z)
    split
    ·exact hst
    ·exact hz
   ·exact hz
 ·obtain ⟨q',k1,_,_,_,k5⟩:=g5 r n hp
  rw [hgr,h1] at k1
  obtain rfl:=Option.some.inj k1
  have:=k5 x hx
  have e:(s.mk' o.dst r qm.F n).upd y.dst x q.k=(s.upd y.dst x q.k).mk' o.dst r qm.F n:=by
   unfold FS.mk'
   rw [upd_comm _ _ _ _ _ _ _ (fun d hd e=>a2 d hd e)]
   congr 1
   unfold FS.upd
   cases hyd:y.dst with
   | none=>rfl
   | some d =>
    simp only
    congr 1
    by_cases hlt:d < s.nt
    ·simp only [hlt,if_true]
     funext z
     by_cases hz:z=d
     ·simp only [hz,if_true];exact hst.symm
     ·simp only [hz,if_false]
    ·simp only [hlt,if_false]
  rw [← e];exact this
def commM (tb:Tb) (ops:Array Oper) (x y:Oper):Bool :=
 if isMk tb x then Oper.apart ops x y && Oper.apart ops y x && (!isMk tb y && isRd y)
 else if isMk tb y then Oper.apart ops x y && Oper.apart ops y x && !isT x && (match x.dst with | some d=>!(x.looksAt ops).contains d | none=>true)
 else comm ops x y
def DJ (ops:Array Oper) (x y:Oper):Prop:=∀ d,y.dst=some d→d ∉ x.looksAt ops∧x.dst≠some d
theorem isRd_isT {y:Oper} (h:isRd y=true):isT y=false:=by
 simp only [isRd,Bool.and_eq_true] at h
 unfold isT isTop
 match hop:y.op,h.2 with
 | .fieldAddr _ _ _,_=>simp
 | .load _ _,_=>simp
theorem oswapM {tb:Tb} {ops:Array Oper} {D:List Nat} {x y:Oper} {s:FS} {K:FS→Prop} (hc:commM tb ops x y=true) (hD:∀ d ∈ D,d ∉ x.looksAt ops∧x.dst≠some d)
  (h:osD [] tb ops x s fun s'=>osD D tb ops y s' K):osD (x.dst.toList++D) tb ops y s fun s'=>osD [] tb ops x s' K:=by
 unfold commM at hc
 unfold osD at *
 split at hc
 ·rename_i hx
  simp only [Bool.and_eq_true,Bool.not_eq_true'] at hc
  obtain ⟨⟨a1,a2⟩,a3,a4⟩:=hc
  simp only [hx,a3,if_true,Bool.false_eq_true,if_false] at h ⊢
  unfold osem at *
  simp only [isRd_isT a4,Bool.false_eq_true,if_false] at h ⊢
  exact mswapB a4 a1 a2 h
 ·rename_i hx
  have hx:isMk tb x=false:=by simpa using hx
  split at hc
  ·rename_i hy
   simp only [Bool.and_eq_true,Bool.not_eq_true'] at hc
   obtain ⟨⟨⟨a1,a2⟩,a3⟩,a4⟩:=hc
   simp only [hx,hy,if_true,Bool.false_eq_true,if_false] at h ⊢
   unfold osem at *
   simp only [a3,Bool.false_eq_true,if_false] at h ⊢
   exact mswapA a1 a2 hD (fun d hd=>by rw [hd] at a4;simpa using a4) h
  ·rename_i hy
   have hy:isMk tb y=false:=by simpa using hy
   simp only [hx,hy,Bool.false_eq_true,if_false] at h ⊢
   exact oswap hc h
theorem osD_mono {tb:Tb} {ops:Array Oper} {D:List Nat} {x:Oper} {s:FS} {K K':FS→Prop} (hk:∀ s',K s'→K' s') (h:osD D tb ops x s K):osD D tb ops x s K':=by
 unfold osD at *
 split
 ·rename_i ht
  rw [if_pos ht] at h
  obtain ⟨q,h1,h2,h3,h4,h5⟩:=h
  exact ⟨q,h1,h2,h3,h4,fun r n hr=>hk _ (h5 r n hr)⟩
 ·rename_i ht
  rw [if_neg ht] at h
  exact osem_mono hk h
def fopsM (tb:Tb) (ops:Array Oper):List Nat→FS→(FS→Prop)→Prop
 | [],s,K=>K s
 | i::l,s,K=>match ops[i]? with
  | some o=>osD [] tb ops o s fun s'=>fopsM tb ops l s' K
  | none=>fopsM tb ops l s K
def dsl (ops:Array Oper):List Nat→List Nat
 | []=>[]
 | j::l=>(match ops[j]? with | some x=>x.dst.toList | none=>[])++dsl ops l
theorem dsl_mem {ops:Array Oper} {d:Nat}:∀ {l:List Nat},d ∈ dsl ops l→∃ k ∈ l,∃ y,ops[k]? = some y∧y.dst=some d
 | [],h=>by cases h
 | j::l,h=>by
  simp only [dsl,List.mem_append] at h
  rcases h with h | h
  ·split at h
   ·rename_i x hx
    exact ⟨j,by simp,x,hx,by simpa using h⟩
   ·cases h
  ·obtain ⟨k,hk,y,h1,h2⟩:=dsl_mem h
   exact ⟨k,by simp [hk],y,h1,h2⟩
theorem pullM {tb:Tb} {ops:Array Oper} {i:Nat} {o:Oper} {K:FS→Prop} (ho:ops[i]? = some o) (l2:List Nat):∀ (l1:List Nat) (s:FS),(∀ j ∈ l1,∀ x,ops[j]? = some x→commM tb ops x o=true)→l1.Pairwise (fun j k=>∀ x y,ops[j]? = some x→ops[k]? = some y→DJ ops x y)→
  fopsM tb ops (l1++i::l2) s K→osD (dsl ops l1) tb ops o s fun s'=>fopsM tb ops (l1++l2) s' K
 | [],s,_,_,h=>by
  simp only [List.nil_append,fopsM,ho,dsl] at h ⊢
  exact h
 | j::l1,s,hc,hp,h=>by
  simp only [List.cons_append,fopsM] at h ⊢
  obtain ⟨hp1,hp2⟩:=List.pairwise_cons.1 hp
  cases hj:ops[j]? with
  | none =>
   simp only [hj,dsl,List.nil_append] at h ⊢
   exact pullM ho l2 l1 s (fun k hk=>hc k (by simp [hk])) hp2 h
  | some x =>
   simp only [hj,dsl] at h ⊢
   refine oswapM (hc j (by simp) x hj) (fun d hd=>?_) (osD_mono (fun s' h'=>pullM ho l2 l1 s' (fun k hk=>hc k (by simp [hk])) hp2 h') h)
   obtain ⟨k,hk,y,h1,h2⟩:=dsl_mem hd
   exact hp1 k hk x y hj h1 d h2
def chkM (tb:Tb) (n:Nat) (ops:Array Oper):Bool :=
 (List.range ops.size).all fun i=>match ops[i]? with
  | some o=>(o.after.toList.all fun e=>!Region.binds .any e || decide (e.on < i)) && ((List.range i).all fun j=>match ops[j]? with
   | some x=>(commM tb ops x o || rch ops n i j) && (match o.dst with | some d=>!(x.looksAt ops).contains d && !(x.dst == some d) | none=>true)
   | none=>true)
  | none=>true
theorem chkM_after {tb:Tb} {n:Nat} {ops:Array Oper} (h:chkM tb n ops=true) {i:Nat} {o:Oper} (ho:ops[i]? = some o):∀ e ∈ o.after,Region.binds .any e=true→e.on < i:=by
 intro e he hb
 have hlt:i < ops.size:=(Array.getElem?_eq_some_iff.1 ho).1
 have h1:=(List.all_eq_true.1 h) i (List.mem_range.2 hlt)
 rw [ho] at h1
 simp only [Bool.and_eq_true] at h1
 have h2:=(List.all_eq_true.1 h1.1) e (by simpa using he)
 simpa [hb] using h2
theorem chkM_comm {tb:Tb} {n:Nat} {ops:Array Oper} (h:chkM tb n ops=true) {i j:Nat} {o x:Oper} (ho:ops[i]? = some o) (hx:ops[j]? = some x) (hji:j < i):(commM tb ops x o=true∨rch ops n i j=true)∧DJ ops x o:=by
 have hlt:i < ops.size:=(Array.getElem?_eq_some_iff.1 ho).1
 have h1:=(List.all_eq_true.1 h) i (List.mem_range.2 hlt)
 rw [ho] at h1
 simp only [Bool.and_eq_true] at h1
 have h2:=(List.all_eq_true.1 h1.2) j (List.mem_range.2 hji)
 rw [hx] at h2
 simp only [Bool.and_eq_true,Bool.or_eq_true] at h2
 refine ⟨h2.1,fun d hd=>?_⟩
 have h3:=h2.2
 rw [hd] at h3
 simp only [Bool.and_eq_true,Bool.not_eq_true',beq_eq_false_iff_ne,ne_eq] at h3
 exact ⟨by simpa using h3.1,h3.2⟩
mutual
theorem stripL_stripF (d:Nat):∀ x:AV,x.stripL d=x.stripF (fun k=>k == d)
 | .v _=>rfl
 | .nl=>rfl
 | .sl _ _=>rfl
 | .agg ls=>by simp only [AV.stripL,AV.stripF,stripLAll_stripF d ls]
 | .tup ls=>by simp only [AV.stripL,AV.stripF,stripLAll_stripF d ls]
 | .cl _ _ ls=>by simp only [AV.stripL,AV.stripF,stripLAll_stripF d ls]
 | .loc k off=>by simp only [AV.stripL,AV.stripF,beq_iff_eq]
 | .xs k off n cap sz=>by simp only [AV.stripL,AV.stripF,beq_iff_eq]
 | .mr k=>by simp only [AV.stripL,AV.stripF,beq_iff_eq]
 | .mb _=>rfl
 | .el _=>rfl
 | .rd=>rfl
 | .dv _=>rfl
 | .junk=>rfl
theorem stripLAll_stripF (d:Nat):∀ ls:List AV,AV.stripLAll d ls=AV.stripFAll (fun k=>k == d) ls
 | []=>rfl
 | x::l=>by simp only [AV.stripLAll,AV.stripFAll,stripL_stripF d x,stripLAll_stripF d l]
end
theorem lkm_backM (f:Nat→Option Nat) (m2 m:List (Nat × List AV)) (k:Nat):∀ φ:List (Nat × Nat),lkm k (backM f m2 m φ)=match lkm k (backM f m2 [] φ) with | some ls=>some ls | none=>lkm k m
 | []=>rfl
 | (cn,b)::l=>by
  simp only [backM]
  split
  ·simp only [lkm]
   split
   ·rfl
   ·exact lkm_backM f m2 m k l
  ·exact lkm_backM f m2 m k l
theorem lkm_backM_none (f:Nat→Option Nat) (m2:List (Nat × List AV)) (k:Nat):∀ φ:List (Nat × Nat),hasR k φ=false→lkm k (backM f m2 [] φ)=none
 | [],_=>rfl
 | (cn,b)::l,h=>by
  simp only [hasR] at h
  split at h
  ·cases h
  ·rename_i hne
   simp only [backM]
   split
   ·simp only [lkm,hne,if_false]
    exact lkm_backM_none f m2 k l h
   ·exact lkm_backM_none f m2 k l h
theorem osD_ok {E:En} {tb:Tb} (hE:TbOk E tb) {D:List Nat} {ops:Array Oper} {i:Nat} {o:Oper} (ho:ops[i]? = some o) {s:FS} {a:Act} {w:World} (h:RF E s a w) {K:FS→Prop} (hs:osD D tb ops o s K) {next:Act→World→Prop} {Q:Exit→Act→World→Prop} (hn:∀ s' a' w',RF E s' a' w'→K s'→next a' w') :
  wpOp E.P ops Q i next a w:=by
 unfold osD at hs
 split at hs
 ·rename_i hm
  obtain ⟨q,h1,h2,_,_,h5⟩:=hs
  obtain ⟨st,rfl,hr⟩:=h
  have hg:o.guard=none:=by simp only [isMk,Bool.and_eq_true,Option.isNone_iff_eq_none] at hm;exact hm.1
  unfold wpOp
  simp only [ho]
  rw [if_pos (by simp [Region.wanted,hg])]
  refine .inl ?_
  rw [fs_ev] at h1
  unfold mkr at h1
  split at h1
  ·rename_i t hop
   split at h1
   ·rename_i d i hd hi
    obtain rfl:=Option.some.inj h1
    refine (op_alloc hr d h2 hd t hop (hE.T.get hi)).wp fun a' w' h'=>hn _ a' w' ⟨_,rfl,h'⟩ ?_
    have:=h5 _ _ ⟨rfl,rfl⟩
    have e:(newbox st d (i.zero.map leafOf)).fs=st.fs.mk' o.dst (.loc d 0) (fun k=>k == d) (fun k=>if k=d then some (AV.stripLAll d (i.zero.map leafOf)) else none):=by
     unfold newbox FS.mk'
     rw [fs_put0,hd]
     congr 1
     unfold St.fs St.stripL
     congr 1
     ·funext x;simp only [lk_stripL,stripL_stripF]
     ·funext x
      simp only [lkm]
      by_cases hx:x=d
      ·simp [hx]
      ·rw [if_neg hx,lkm_stripL d x hx]
       simp only [beq_iff_eq,hx,if_false]
       congr 1
       funext ls
       rw [AV.stripLAll_eq,stripFAll_eq]
       exact List.map_congr_left fun y _=>stripL_stripF d y
    rw [e];exact this
   ·cases h1
  ·rename_i c hop
   split at h1
   ·rename_i f hcal
    split at h1
    ·rename_i C ρ0 φ0 hmm
     split at h1
     rotate_left
     ·cases h1
     rename_i hrho
     obtain rfl:=Option.some.inj h1
     generalize shf (dN o.dst) φ0=φ at *
     obtain ⟨callee,args,ats⟩:=c
     simp only at hcal h2 h5
     subst hcal
     obtain ⟨⟨q1,q2⟩,_,q4⟩:=hE.MM _ (mmk_mem hmm)
     obtain ⟨q3,h2⟩:=h2
     refine op_callM hr f (.func f) args ats hop rfl q1 q2 q4 q3.names.1 q3.names.2 rfl h2 fun r m2 hp a' w' h'=>hn _ a' w' ⟨_,rfl,h'⟩ ?_
     have:=h5 _ _ ⟨r,m2,hp,rfl,rfl⟩
     have e:(st.calledM [] φ m2 r o.dst).fs=st.fs.mk' o.dst (r.mvn fun cn=>nlk cn φ) (fun k=>hasR k φ) (fun k=>lkm k (backM (fun cn=>nlk cn φ) m2 [] φ)):=by
      unfold St.calledM FS.mk'
      rw [fs_put0]
      simp only [List.nil_append]
      congr 1
      unfold St.fs
      congr 1
      ·funext x;simp only [lk_stripF]
      ·funext x
       simp only
       rw [lkm_backM]
       cases hF:hasR x φ with
       | true =>
        simp only [lkm_remF,hF,if_true]
        split<;>simp_all
       | false =>
        rw [lkm_backM_none _ _ _ _ hF]
        simp only [lkm_remF,hF,Bool.false_eq_true,if_false,lkm_stripF]
     rw [e];exact this
    ·cases h1
   ·cases h1
  ·cases h1
 ·exact osem_ok hE ho h hs hn
theorem any_okM {E:En} {tb:Tb} (hE:TbOk E tb) {ops:Array Oper} {n:Nat} (hck:chkM tb n ops=true) {K:FS→Prop} {Q:Exit→Act→World→Prop} (hK:∀ s a w,RF E s a w→K s→Q .normal a w) :
  ∀ (fuel:Nat) (listed:Array Bool) (s:FS) (a:Act) (w:World),listed.size=ops.size→Closed ops listed→(rem ops listed).length≤fuel→RF E s a w→fopsM tb ops (rem ops listed) s K→wpAny E.P .any ops Q fuel listed a w:=by
 have hq:∀ (listed:Array Bool) (i:Nat),listed.size=ops.size→i < ops.size→listed.getD i true=listed.getD i false:=fun listed i h hi=>by
  have:i < listed.size:=by omega
  simp [this]
 have hnil:∀ (listed:Array Bool),listed.size=ops.size→rem ops listed=[]→Region.ready .any ops listed=[]:=fun listed hsz h=>by
  rw [List.eq_nil_iff_forall_not_mem]
  intro i hi
  obtain ⟨h1,o,ho,_⟩:=mem_ready.1 hi
  have hlt:i < ops.size:=(Array.getElem?_eq_some_iff.1 ho).1
  rw [hq listed i hsz hlt] at h1
  have:i ∈ rem ops listed:=List.mem_filter.2 ⟨List.mem_range.2 hlt,by rw [h1];rfl⟩
  rw [h] at this;cases this
 intro fuel
 induction fuel with
 | zero =>
  intro listed s a w hsz hcl hl hr hf
  have hn:rem ops listed=[]:=List.eq_nil_of_length_eq_zero (by omega)
  rw [hn] at hf
  exact ⟨hnil listed hsz hn,hK s a w hr hf⟩
 | succ fuel ih =>
  intro listed s a w hsz hcl hl hr hf
  refine ⟨fun h0=>?_,fun i hi=>?_⟩
  ·have hn:rem ops listed=[]:=by
    cases hrem:rem ops listed with
    | nil=>rfl
    | cons i l =>
     exfalso
     have hi:i ∈ rem ops listed:=by rw [hrem];simp
     obtain ⟨h1,h2⟩:=List.mem_filter.1 hi
     have hlt:=List.mem_range.1 h1
     have hlf:listed.getD i false=false:=by simpa using h2
     have ho:ops[i]? = some ops[i]:=Array.getElem?_eq_getElem hlt
     have:i ∈ Region.ready .any ops listed:=mem_ready.2 ⟨by rw [hq listed i hsz hlt];exact hlf,_,ho,fun e he hb=>by
      have hlt':=chkM_after hck ho e he hb
      cases hle:listed.getD e.on false with
      | true=>rfl
      | false =>
       exfalso
       obtain ⟨l1,l2,e1,_,e3⟩:=rem_split hsz hlt hlf
       have hmem:e.on ∈ l1:=by
        have hm:e.on ∈ rem ops listed:=List.mem_filter.2 ⟨List.mem_range.2 (by omega),by rw [hle];rfl⟩
        have hs:(rem ops listed).Pairwise (· < ·):=List.Pairwise.filter _ List.pairwise_lt_range
        rw [hrem] at hs hm
        rcases List.mem_cons.1 hm with h | h
        ·omega
        ·have:=(List.pairwise_cons.1 hs).1 _ h;omega
       have hs:l1=[]:=by
        cases l1 with
        | nil=>rfl
        | cons k l1 =>
         rw [hrem,List.cons_append] at e1
         injection e1 with e1 _
         have:=(e3 k (by simp)).1
         omega
       rw [hs] at hmem;cases hmem⟩
     rw [h0] at this;cases this
   rw [hn] at hf
   exact hK s a w hr hf
  ·obtain ⟨h1,o,ho,h2⟩:=mem_ready.1 hi
   have hlt:i < ops.size:=(Array.getElem?_eq_some_iff.1 ho).1
   rw [hq listed i hsz hlt] at h1
   obtain ⟨l1,l2,e1,e2,e3⟩:=rem_split hsz hlt h1
   rw [e1] at hf hl
   have hp:=pullM ho l2 l1 s (fun j hj x hx=>by
    obtain ⟨j1,j2⟩:=e3 j hj
    rcases (chkM_comm hck ho hx j1).1 with h | h
    ·exact h
    ·have:=rch_ok hcl n i j (fun o' ho' e he hb=>by rw [ho] at ho';obtain rfl:=Option.some.inj ho';exact h2 e he hb) h
     rw [j2] at this;cases this) (by
    have hsr:(rem ops listed).Pairwise (· < ·):=List.Pairwise.filter _ List.pairwise_lt_range
    rw [e1] at hsr
    exact (List.pairwise_append.1 hsr).1.imp fun {j k} hjk x y hx hy=>(chkM_comm hck hy hx hjk).2) hf
   refine osD_ok hE ho hr hp fun s' a' w' h' hk=>ih _ s' a' w' (by simpa using hsz) ?_ (by rw [e2];simp only [List.length_append,List.length_cons] at hl ⊢;omega) h' (by rw [e2];exact hk)
   intro k ok hok hk e he hb
   refine getD_set_true ?_
   by_cases hki:i=k
   ·subst hki
    rw [ho] at hok;obtain rfl:=Option.some.inj hok
    exact h2 e he hb
   ·rw [getD_set_ne false hki] at hk
    exact hcl k ok hok hk e he hb
def noF (F:Nat→Bool):List (Nat × List AV)→Bool
 | []=>true
 | (k,_)::l=>if F k then false else noF F l
theorem noF_ok {F:Nat→Bool} {k:Nat} {ls:List AV}:∀ {l:List (Nat × List AV)},noF F l=true→(k,ls) ∈ l→F k=false
 | (y,v)::l,h,hm=>by
  simp only [noF] at h
  split at h
  ·cases h
  ·rename_i hf
   rcases List.mem_cons.1 hm with e | hm
   ·obtain ⟨rfl,rfl⟩:=Prod.mk.inj e;simpa using hf
   ·exact noF_ok h hm
def clS (F:Nat→Bool) (st:St):Prop:=stripFσ F st.σ=st.σ∧stripFm F st.m=st.m∧noF F st.m=true
theorem clS_ok {F:Nat→Bool} {st:St} (h:clS F st):ClF [] F st.fs:=by
 obtain ⟨h1,h2,h3⟩:=h
 refine ⟨fun x=>.inr ?_,fun k ls hk=>?_⟩
 ·show (lk x st.σ).stripF F=lk x st.σ
  rw [← lk_stripF,h1]
 ·have hk:lkm k st.m=some ls:=hk
  have h4:∀ l:List (Nat × List AV),lkm k l=some ls→(k,ls) ∈ l:=by
   intro l
   induction l with
   | nil=>intro h;cases h
   | cons p l ih =>
    obtain ⟨y,v⟩:=p
    intro h
    simp only [lkm] at h
    split at h
    ·rename_i e;subst e;obtain rfl:=Option.some.inj h;simp
    ·exact List.mem_cons_of_mem _ (ih h)
  refine ⟨noF_ok h3 (h4 _ hk),?_⟩
  have:=lkm_stripF F k st.m
  rw [h2,hk] at this
  exact (Option.some.inj this).symm
def dstpC (C:ConM) (φ:List (Nat × Nat)) (args:List AV) (dst:Option Nat) (st:St) (K:St→Prop):Prop :=
 (okN [] φ∧C.pre args []∧(∃ r m2,C.post args [] r m2)∧clS (fun k=>hasR k φ) st)∧∀ r m2,C.post args [] r m2→K (st.calledM [] φ m2 r dst)
def dstpM (tb:Tb) (ops:List Oper) (o:Oper) (st:St) (K:St→Prop):Prop :=
 match o.guard with
 | none=>match o.op with
  | .alloc t=>match o.dst,tyk t tb.T with
   | some d,some i=>(d < 920∧clS (fun k=>k == d) st)∧K (newbox st d (i.zero.map leafOf))
   | _,_=>False
  | .call c=>match c.callee with
   | .value (.func f)=>match mmk f tb.MM with
    | some (C,_,φ)=>match rhoA 1000 (c.args.toList.map st.ev) with
     | []=>dstpC C (shf (dN o.dst) φ) (c.args.toList.map fun x=>(st.ev x).mvn fun k=>nlkR k []) o.dst st K
     | _=>False
    | none=>dstpG tb ops o st K
   | _=>dstpG tb ops o st K
  | _=>dstpG tb ops o st K
 | some _=>dstpG tb ops o st K
theorem newbox_fs {st:St} {d:Nat} {zs:List AV}:(newbox st d zs).fs=st.fs.mk' (some d) (.loc d 0) (fun k=>k == d) (fun k=>if k=d then some (AV.stripLAll d zs) else none):=by
 unfold newbox FS.mk'
 rw [fs_put0]
 congr 1
 unfold St.fs St.stripL
 congr 1
 ·funext x;simp only [lk_stripL,stripL_stripF]
 ·funext x
  simp only [lkm]
  by_cases hx:x=d
  ·simp [hx]
  ·rw [if_neg hx,lkm_stripL d x hx]
   simp only [beq_iff_eq,hx,if_false]
   congr 1
   funext ls
   exact stripLAll_stripF d ls
theorem calledM_fs {st:St} {φ:List (Nat × Nat)} {m2:List (Nat × List AV)} {r:AV} {dst:Option Nat}:(st.calledM [] φ m2 r dst).fs=st.fs.mk' dst (r.mvn fun cn=>nlk cn φ) (fun k=>hasR k φ) (fun k=>lkm k (backM (fun cn=>nlk cn φ) m2 [] φ)):=by
 unfold St.calledM FS.mk'
 rw [fs_put0]
 simp only [List.nil_append]
 congr 1
 unfold St.fs
 congr 1
 ·funext x;simp only [lk_stripF]
 ·funext x
  simp only
  rw [lkm_backM]
  cases hF:hasR x φ with
  | true =>
   simp only [lkm_remF,hF,if_true]
   split<;>simp_all
  | false =>
   rw [lkm_backM_none _ _ _ _ hF]
   simp only [lkm_remF,hF,Bool.false_eq_true,if_false,lkm_stripF]
theorem dstpM_osD {tb:Tb} {ops:List Oper} {o:Oper} {st:St} {K:St→Prop} {K':FS→Prop} (hk:∀ st',K st'→K' st'.fs) (h:dstpM tb ops o st K):osD [] tb ops.toArray o st.fs K':=by
 have plain:isMk tb o=false→dstpG tb ops o st K→osD [] tb ops.toArray o st.fs K':=fun hm h=>by
  unfold osD
  rw [if_neg (by simp [hm])]
  exact dstpG_osem hk h
 unfold dstpM at h
 split at h
 ·rename_i hg
  split at h
  ·rename_i t ho
   split at h
   ·rename_i d i hd hi
    unfold osD
    rw [if_pos (by simp [isMk,hg,ho,isMkO])]
    refine ⟨⟨fun k=>k == d,d < 920,fun r n=>r = .loc d 0∧n=fun k=>if k=d then some (AV.stripLAll d (i.zero.map leafOf)) else none⟩,by rw [fs_ev];simp only [mkr,ho,hd,hi],h.1.1,⟨_,_,rfl,rfl⟩,clS_ok h.1.2,fun r n hp=>?_⟩
    obtain ⟨rfl,rfl⟩:=hp
    have:=hk _ h.2
    rw [newbox_fs] at this
    rw [hd];exact this
   ·exact h.elim
  ·rename_i c ho
   split at h
   ·rename_i f hcal
    split at h
    ·rename_i C ρ0 φ0 hmm
     split at h
     ·rename_i hrho
      unfold osD
      rw [if_pos (by simp [isMk,hg,ho,isMkO,hcal,hmm])]
      obtain ⟨⟨g0,g1,⟨r0,m0,g2⟩,g3⟩,g4⟩:=h
      refine ⟨mkC C (shf (dN o.dst) φ0) (c.args.toList.map fun x=>(st.ev x).mvn fun k=>nlkR k []),by rw [fs_ev];simp only [mkr,ho,hcal,hmm,hrho],⟨g0,g1⟩,⟨_,_,r0,m0,g2,rfl,rfl⟩,clS_ok g3,fun r n hp=>?_⟩
      obtain ⟨r1,m1,hp,rfl,rfl⟩:=hp
      have:=hk _ (g4 r1 m1 hp)
      rw [calledM_fs] at this
      exact this
     ·exact h.elim
    ·rename_i hmm
     exact plain (by simp [isMk,ho,isMkO,hcal,hmm]) h
   ·rename_i hcal
    refine plain ?_ h
    have:isMkO tb o.op=false:=by
     rw [ho]
     obtain ⟨callee,args,ats⟩:=c
     cases callee with
     | value fo=>cases fo with
      | func f=>exact absurd rfl (hcal f)
      | _=>rfl
     | _=>rfl
    simp [isMk,this]
  ·rename_i h1 h2
   refine plain ?_ h
   have:isMkO tb o.op=false:=by
    cases ho:o.op with
    | alloc t=>exact absurd ho (h1 t)
    | call c=>exact absurd ho (h2 c)
    | _=>rfl
   simp [isMk,this]
 ·rename_i hg
  exact plain (by simp [isMk,hg]) h
def daopsM (tb:Tb) (ops:List Oper):List Oper→St→(St→Prop)→Prop
 | [],st,K=>K st
 | o::l,st,K=>dstpM tb ops o st fun st'=>daopsM tb ops l st' K
theorem daopsM_fopsM {tb:Tb} {ops:List Oper} {K:St→Prop} {K':FS→Prop} (hk:∀ st',K st'→K' st'.fs):∀ (l:List Oper) (k:Nat) (st:St),ops.drop k=l→daopsM tb ops l st K→fopsM tb ops.toArray ((List.range l.length).map (fun j=>k + j)) st.fs K'
 | [],k,st,_,h=>hk st h
 | o::l,k,st,hd,h=>by
  rw [List.length_cons,List.range_succ_eq_map,List.map_cons,List.map_map]
  have ho:ops.toArray[k + 0]? = some o:=by
   have:=congrArg (fun x=>x[0]?) hd
   simp at this
   simpa using this
  simp only [fopsM,ho]
  refine osD_mono (fun s' h'=>h') (dstpM_osD (K':=fun s'=>fopsM tb ops.toArray (List.map ((fun j=>k + j) ∘ Nat.succ) (List.range l.length)) s' K') (fun st' h'=>?_) h)
  have:=daopsM_fopsM hk l (k + 1) st' (by rw [← List.drop_drop,hd];rfl) h'
  have e:((fun j=>k + j) ∘ Nat.succ)=(fun j=>k + 1 + j):=by funext j;simp only [Function.comp];omega
  rw [e];exact this
theorem Aw_drawM {E:En} {tb:Tb} (hE:TbOk E tb) {id:Nat} {l:List Oper} {st:St} {Q:Exit→St→Prop} (L Lm:List Nat) (n:Nat) (hck:chkM tb n l.toArray=true) (h:daopsM tb l l st fun st'=>Q .normal (st'.keep L Lm)):Aw E (.region id l.toArray true) st Q:=by
 intro a w hr
 refine wp_region_any hE.mx ?_
 have hrem:rem l.toArray (Array.replicate l.toArray.size false)=List.range l.length:=by
  unfold rem
  simp only [List.size_toArray]
  apply List.filter_eq_self.2
  intro i hi
  have:=List.mem_range.1 hi
  simp [this]
 refine any_okM hE hck (K:=fun s=>∃ st':St,st'.fs=s∧Q .normal (st'.keep L Lm)) (fun s a' w' ⟨st1,h1,h2⟩ ⟨st2,h3,h4⟩=>⟨_,(h2.eqv (eqv_of_fs (h1.trans h3.symm))).keep L Lm,h4⟩) _ _ st.fs a _ (by simp) (fun i o ho hl=>?_) (by rw [hrem];simp) ⟨st,rfl,hr.drew⟩ ?_
 ·exfalso
  have:i < l.toArray.size:=(Array.getElem?_eq_some_iff.1 ho).1
  simp only [List.size_toArray] at this
  simp [this] at hl
 ·rw [hrem]
  have:=daopsM_fopsM (tb:=tb) (ops:=l) (K:=fun st'=>Q .normal (st'.keep L Lm)) (K':=fun s=>∃ st':St,st'.fs=s∧Q .normal (st'.keep L Lm)) (fun st' h'=>⟨st',rfl,h'⟩) l 0 st rfl h
  simpa using this
theorem Aw_sm {E:En} {tb:Tb} {st:St} {Q:Exit→St→Prop} (hE:TbOk E tb) {id:Nat} {l:List Oper} {y:Code} (L Lm:List Nat) (n:Nat) (hck:chkM tb n l.toArray=true) (h:∀ K:St→Prop,(∀ st',Aw E y st' Q→K st')→daopsM tb l l st fun st'=>K (st'.keep L Lm)):Aw E (.seq (.region id l.toArray true) y) st Q :=
 Aw_seq (Aw_drawM hE L Lm n hck (h _ fun _ h=>h))
section
variable {tb:Tb} {ops:List Oper} {o:Oper} {l:List Oper} {st:St} {K:St→Prop} {nt rn:Nat} {σ:List (Nat × AV)} {m:List (Nat × List AV)}
theorem daopsM_nil:daopsM tb ops [] st K=K st:=rfl
theorem daopsM_mk:daopsM tb ops (o::l) ⟨nt,σ,m,rn⟩ K=dstpM tb ops o ⟨nt,σ,m,rn⟩ fun st'=>daopsM tb ops l st' K:=rfl
end
attribute [go_sem] daopsM_nil daopsM_mk dstpM dstpC clS noF
def ConM.or (A B:ConM):ConM:={ pre:=fun a m=>A.pre a m∨B.pre a m,post:=fun a m r m2=>(A.pre a m→A.post a m r m2)∧(¬A.pre a m→B.post a m r m2) }
theorem FineM.or {P:Program} {f:FuncId} {A B:ConM} (hA:FineM P f A) (hB:FineM P f B) (iA:∀ w,A.inv w) (iB:∀ w,B.inv w):FineM P f (A.or B):=by
 refine ⟨hA.1,fun c args m1 vs h1 h2 h3 h4 _ h6 h7 h8 h9=>?_⟩
 by_cases hp:A.pre args m1
 ·refine (hA.2 c args m1 vs h1 h2 h3 hp (fun w' _=>iA w') h6 h7 h8 h9).mono fun e w' ⟨v,r,m2,c',he,hq,O⟩=>⟨v,r,m2,c',he,⟨fun _=>hq,fun h=>absurd hp h⟩,O⟩
 ·have hb:B.pre args m1:=h4.resolve_left hp
  refine (hB.2 c args m1 vs h1 h2 h3 hb (fun w' _=>iB w') h6 h7 h8 h9).mono fun e w' ⟨v,r,m2,c',he,hq,O⟩=>⟨v,r,m2,c',he,⟨fun h=>absurd h hp,fun _=>hq⟩,O⟩
end Go.Eng
end
section
namespace Go.Eng
open Go Go.RowKit
def isS (o:Oper):Bool:=match o.guard with | some _=>false | none=>match o.op with | .store _ _ _=>true | _=>false
def okL (Z:List Nat) (o:Op) (ev:Operand→AV):Prop:=match o with
 | .load _ x=>match ev x with | .loc d _=>Z.contains d=false | _=>True
 | .lookup _ x _ _=>match ev x with | .mr d=>Z.contains d=false | _=>True
 | _=>True
def FS.st (s:FS) (d:Nat) (l:List AV):FS:={ s with m:=fun k=>if k=d then some l else s.m k }
def mkd (Z:List Nat):Bool:=Z.contains 999999
def okZ (Z:List Nat) (o:Op) (ev:Operand→AV):Prop:=match mkd Z with | true=>True | false=>okL Z o ev
/- evaluation -/
def zIn (Z:List Nat) (o:Op) (ev:Operand→AV):Prop:=match o with
 | .store _ x _=>match ev x with | .loc d _=>Z.contains d=true | _=>False
 | _=>False
def dstpZ (Z:List Nat) (tb:Tb) (ops:List Oper) (o:Oper) (st:St) (K:St→Prop):Prop :=
 match isS o with
 | true=>zIn Z o.op st.ev∧stp tb o st K
 | false=>okZ Z o.op st.ev∧dstpG tb ops o st K
def daopsZ (Z:List Nat) (tb:Tb) (ops:List Oper):List Oper→St→(St→Prop)→Prop
 | [],st,K=>K st
 | o::l,st,K=>dstpZ Z tb ops o st fun st'=>daopsZ Z tb ops l st' K
section
variable {Z:List Nat} {tb:Tb} {ops:List Oper} {o:Oper} {l:List Oper} {K:St→Prop} {nt rn:Nat} {σ:List (Nat × AV)} {m:List (Nat × List AV)}
theorem daopsZ_nil {st:St}:daopsZ Z tb ops [] st K=K st:=rfl
theorem daopsZ_mk:daopsZ Z tb ops (o::l) ⟨nt,σ,m,rn⟩ K=dstpZ Z tb ops o ⟨nt,σ,m,rn⟩ fun st'=>daopsZ Z tb ops l st' K:=rfl
end
attribute [go_sem] Bool.or_false Bool.true_or Bool.or_true Bool.false_or daopsZ_nil daopsZ_mk dstpZ isS okZ mkd okL zIn List.contains_cons List.contains_nil
theorem aops_app {tb:Tb} {ops:List Oper} {K:St→Prop}:∀ (l1 l2:List Oper) (st:St),aops tb ops (l1++l2) st K=aops tb ops l1 st fun st'=>aops tb ops l2 st' K
 | [],l2,st=>rfl
 | o::l1,l2,st=>by
  show stpG tb ops o st _=stpG tb ops o st _
  congr 1
  funext st'
  exact aops_app l1 l2 st'
theorem aops_cut (n:Nat) {tb:Tb} {ops l:List Oper} {st:St} {K:St→Prop} (h:∀ K1:St→Prop,(∀ st',aops tb ops (l.drop n) st' K→K1 st')→aops tb ops (l.take n) st K1):aops tb ops l st K:=by
 have:=h _ fun _ h=>h
 rw [← aops_app,List.take_append_drop] at this
 exact this
theorem Le_own (d : Nat) (e : TypeId) (y : Nat) {st : St} (hy : lk y st.σ = .nl) : Le st { (st.strip d) with σ := (y, .sl (some (d, 0, e)) []) :: (st.strip d).σ } := by
  intro E a w ⟨c, h1, G, h3, h4, h5⟩
  subst h1
  let c' : Gh := { c with tv := fun k j => if k = d then .slice none 0 0 else c.tv k j, te := fun k j => if k = d then e else c.te k j }
  have hs : SameBut d c c' := ⟨rfl, rfl, fun _ _ h => if_neg h, fun _ _ h => if_neg h⟩
  have hk : Keeps c.w c.S c'.w c'.S := Keeps.same (fun _ _ h => h) fun _ _ _ => rfl
  refine ⟨c', rfl, ?_, fun x => ?_, h4, h5⟩
  · exact { bl := G.bl, cg := G.cg, fr := G.fr, lx := G.lx, sx := G.sx, s1 := G.s1, sS := G.sS, sg := G.sg,
            box := fun k ls hl => by
              have hl : lkm k (stripm d st.m) = some ls := hl
              rw [lkm_strip] at hl
              obtain ⟨l, hl2, rfl⟩ := Option.map_eq_some_iff.1 hl
              obtain ⟨cs, T, e1, e2, e3, e4, e5⟩ := G.box k l hl2
              refine ⟨cs, T, e1, e2, by simpa [AV.stripAll_eq] using e3, fun j x hx => ?_, e5⟩
              rw [AV.stripAll_eq, List.getElem?_map, Option.map_eq_some_iff] at hx
              obtain ⟨y, hy, rfl⟩ := hx
              exact (e4 j y hy).strip hk hs
            boxinj := fun k k' l l' h1 h2 he => by
              have h1 : lkm k (stripm d st.m) = some l := h1
              have h2 : lkm k' (stripm d st.m) = some l' := h2
              rw [lkm_strip] at h1 h2
              obtain ⟨l1, h1, _⟩ := Option.map_eq_some_iff.1 h1
              obtain ⟨l2, h2, _⟩ := Option.map_eq_some_iff.1 h2
              exact G.boxinj k k' _ _ h1 h2 he
            tok := fun k j => by
              by_cases hkd : k = d
              · exact .inl (if_pos hkd)
              · refine tok_keep (G.tok k j) (if_neg hkd) (if_neg hkd) fun b hb => ⟨rfl, fun o h => h⟩
            toktok := fun k j k' j' b h1 h2 => by
              by_cases hkd : k = d
              · rw [show c'.tv k j = .slice none 0 0 from if_pos hkd] at h1; simp [Value.ownBlock] at h1
              · by_cases hkd' : k' = d
                · rw [show c'.tv k' j' = .slice none 0 0 from if_pos hkd'] at h2; simp [Value.ownBlock] at h2
                · rw [show c'.tv k j = c.tv k j from if_neg hkd] at h1
                  rw [show c'.tv k' j' = c.tv k' j' from if_neg hkd'] at h2
                  exact G.toktok k j k' j' b h1 h2
            tokbox := fun k j b k' l hb h2 => by
              have h2 : lkm k' (stripm d st.m) = some l := h2
              rw [lkm_strip] at h2
              obtain ⟨l2, h2, _⟩ := Option.map_eq_some_iff.1 h2
              by_cases hkd : k = d
              · rw [show c'.tv k j = .slice none 0 0 from if_pos hkd] at hb; simp [Value.ownBlock] at hb
              · rw [show c'.tv k j = c.tv k j from if_neg hkd] at hb
                exact G.tokbox k j b k' _ hb h2
            rk := G.rk }
  · show Rd c' (lk x ((y, .sl (some (d, 0, e)) []) :: stripσ d st.σ)) _
    simp only [lk]
    split
    · rename_i hx
      subst hx
      have := h3 x
      rw [hy] at this
      generalize a.tmps.getD x undef = v at this
      cases this
      exact .sl _ [] _ .nil ⟨if_pos rfl, if_pos rfl⟩
    · rw [lk_strip]
      exact (h3 x).strip hk hs
def isY (o:Oper):Bool:=o.guard.isNone && (match o.op with | .move _=>true | .assign _=>true | .extract _ _=>true | .fieldAddr _ _ _=>true | _=>false)
theorem isY_isT {o:Oper} (h:isY o=true):isT o=false:=by
 simp only [isY,Bool.and_eq_true] at h
 unfold isT isTop
 match hop:o.op,h.2 with
 | .move _,_=>simp
 | .assign _,_=>simp
 | .extract _ _,_=>simp
 | .fieldAddr _ _ _,_=>simp
theorem isY_isMk {tb:Tb} {o:Oper} (h:isY o=true):isMk tb o=false:=by
 simp only [isY,Bool.and_eq_true] at h
 unfold isMk isMkO
 match hop:o.op,h.2 with
 | .move _,_=>simp
 | .assign _,_=>simp
 | .extract _ _,_=>simp
 | .fieldAddr _ _ _,_=>simp
theorem ydet {E:En} {st:St} {a:Act} {w:World} {o:Oper} (hy:isY o=true) (h:R E st a w) {T:List (TypeId × TyI)} (hT:TysOk E.P T) {gl:List (Nat × Value)} (hgl:∀ p ∈ gl,p.2.oneCell'=true∧w.cell? ⟨p.1,0,none⟩=some p.2) {c:Prop} {r:AV} (hd:dop T gl o.op st.ev (fun k=>lkm k st.m)=some (c,r)) (hc:c) :
  ∃ v,(∀ w2,(execOp a.eval o).run E.P w2 = .ok (.value v) w2)∧R E (st.put o.dst r) (a.put o.dst v) w:=by
 obtain ⟨v,w',h1,h2⟩:=dop_ok h hT hgl hd hc
 simp only [isY,Bool.and_eq_true] at hy
 have hy:=hy.2
 have key:(∃ u,∀ w2,(execOp a.eval o).run E.P w2 = .ok (.value u) w2)→∃ v,(∀ w2,(execOp a.eval o).run E.P w2 = .ok (.value v) w2)∧R E (st.put o.dst r) (a.put o.dst v) w:=fun ⟨u,hu⟩=>by
  rw [hu w] at h1
  simp only [Result.ok.injEq,Next.value.injEq] at h1
  obtain ⟨rfl,rfl⟩:=h1
  exact ⟨u,hu,h2⟩
 match hop:o.op,hy with
 | .move x,_=>exact key ⟨a.eval x,fun w2=>by unfold execOp;rw [hop];rfl⟩
 | .assign x,_=>exact key ⟨a.eval x,fun w2=>by unfold execOp;rw [hop];rfl⟩
 | .extract x k,_ =>
  rw [hop] at hd
  simp only [dop] at hd
  split at hd
  ·rename_i ls hx
   split at hd
   ·rename_i r' hr
    obtain ⟨c0,_,_,h3,_,_⟩:=h
    have hv:=R.ev h3 x
    rw [hx] at hv
    refine key ?_
    obtain ⟨cs,e1,e2⟩:∃ cs:Array Value,a.eval x = .tuple cs∧cs.size=ls.length:=by
     generalize a.eval x=u at hv
     cases hv with
     | tup ls cs hn hh=>exact ⟨cs,rfl,hn⟩
    have hlt:k < cs.size:=by rw [e2];exact (List.getElem?_eq_some_iff.1 hr).1
    refine ⟨cs.getD k undef,fun w2=>?_⟩
    unfold execOp;rw [hop]
    simp [Instr.extract,e1,hlt,Array.getD_eq_getD_getElem?]
   ·cases hd
  ·cases hd
 | .fieldAddr t x k,_ =>
  rw [hop] at hd
  simp only [dop] at hd
  obtain ⟨c0,_,_,h3,_,_⟩:=h
  have hv:=R.ev h3 x
  split at hd
  ·rename_i d o' off fi hx hf
   obtain ⟨rfl,rfl⟩:=Prod.mk.inj (Option.some.inj hd)
   obtain ⟨i,ft,k1,k2,k3⟩:=fld_ok hT hf
   rw [hx] at hv
   refine key ⟨.pointer (some ⟨c0.β d,o' + off,none⟩),fun w2=>?_⟩
   have e1:a.eval x = .pointer (some ⟨c0.β d,o',none⟩):=by generalize a.eval x=z at hv;cases hv;rfl
   unfold execOp;rw [hop];simp [e1,fieldPlace_ok k1 k2 k3 hc]
  ·rename_i ls off fi hx hf
   obtain ⟨rfl,rfl⟩:=Prod.mk.inj (Option.some.inj hd)
   obtain ⟨i,ft,k1,k2,k3⟩:=fld_ok hT hf
   rw [hx] at hv
   obtain ⟨b,ob,e1⟩:∃ b off,a.eval x = .pointer (some ⟨b,off,none⟩):=by
    generalize a.eval x=u at hv
    cases hv with
    | el ls b off f hc hh=>exact ⟨b,off,rfl⟩
   refine key ⟨.pointer (some ⟨b,ob + off,none⟩),fun w2=>?_⟩
   unfold execOp;rw [hop];simp [e1,fieldPlace_ok k1 k2 k3 hc]
  ·cases hd
def isTn (tb:Tb) (o:Oper):Bool:=isT o && !isMk tb o
def tsemV (tb:Tb) (o:Oper) (s:FS) (K:FS→Prop):Prop:=∃ st:St,st.fs=s∧stp tb o st fun st'=>K st'.fs
def osE (D:List Nat) (tb:Tb) (ops:Array Oper) (o:Oper) (s:FS) (K:FS→Prop):Prop :=
 if isTn tb o then tsemV tb o s K else osD D tb ops o s K
def commE (tb:Tb) (ops:Array Oper) (x y:Oper):Bool:=!isTn tb x && !isTn tb y && commM tb ops x y
theorem osE_mono {tb:Tb} {ops:Array Oper} {D:List Nat} {x:Oper} {s:FS} {K K':FS→Prop} (hk:∀ s',K s'→K' s') (h:osE D tb ops x s K):osE D tb ops x s K':=by
 unfold osE at *
 split
 ·rename_i ht
  rw [if_pos ht] at h
  obtain ⟨st,h1,h2⟩:=h
  exact ⟨st,h1,stp_mono (fun st' h'=>hk _ h') h2⟩
 ·rename_i ht
  rw [if_neg ht] at h
  exact osD_mono hk h
theorem osE_ok {E:En} {tb:Tb} (hE:TbOk E tb) {D:List Nat} {ops:Array Oper} {i:Nat} {o:Oper} (ho:ops[i]? = some o) {s:FS} {a:Act} {w:World} (h:RF E s a w) {K:FS→Prop} (hs:osE D tb ops o s K) {next:Act→World→Prop} {Q:Exit→Act→World→Prop} (hn:∀ s' a' w',RF E s' a' w'→K s'→next a' w') :
  wpOp E.P ops Q i next a w:=by
 unfold osE at hs
 split at hs
 ·rename_i ht
  obtain ⟨st,rfl,hr⟩:=h
  obtain ⟨st',h1,h2⟩:=hs
  have hg:o.guard=none:=by
   simp only [isTn,isT,Bool.and_eq_true,Option.isNone_iff_eq_none] at ht;exact ht.1.1
  unfold wpOp
  simp only [ho]
  rw [if_pos (by simp [Region.wanted,hg])]
  exact .inl (stp_ok hE (hr.eqv (eqv_of_fs h1.symm)) h2 fun st2 a' w' h' hk=>hn _ a' w' ⟨st2,rfl,h'⟩ hk)
 ·exact osD_ok hE ho h hs hn
theorem oswapE {tb:Tb} {ops:Array Oper} {D:List Nat} {x y:Oper} {s:FS} {K:FS→Prop} (hc:commE tb ops x y=true) (hD:∀ d ∈ D,d ∉ x.looksAt ops∧x.dst≠some d)
  (h:osE [] tb ops x s fun s'=>osE D tb ops y s' K):osE (x.dst.toList++D) tb ops y s fun s'=>osE [] tb ops x s' K:=by
 simp only [commE,Bool.and_eq_true,Bool.not_eq_true'] at hc
 obtain ⟨⟨h1,h2⟩,h3⟩:=hc
 unfold osE at *
 simp only [h1,h2,Bool.false_eq_true,if_false] at h ⊢
 exact oswapM h3 hD h
def fopsE (tb:Tb) (ops:Array Oper):List Nat→FS→(FS→Prop)→Prop
 | [],s,K=>K s
 | i::l,s,K=>match ops[i]? with
  | some o=>osE [] tb ops o s fun s'=>fopsE tb ops l s' K
  | none=>fopsE tb ops l s K
theorem pullE {tb:Tb} {ops:Array Oper} {i:Nat} {o:Oper} {K:FS→Prop} (ho:ops[i]? = some o) (l2:List Nat):∀ (l1:List Nat) (s:FS),(∀ j ∈ l1,∀ x,ops[j]? = some x→commE tb ops x o=true)→l1.Pairwise (fun j k=>∀ x y,ops[j]? = some x→ops[k]? = some y→DJ ops x y)→
  fopsE tb ops (l1++i::l2) s K→osE (dsl ops l1) tb ops o s fun s'=>fopsE tb ops (l1++l2) s' K
 | [],s,_,_,h=>by
  simp only [List.nil_append,fopsE,ho,dsl] at h ⊢
  exact h
 | j::l1,s,hc,hp,h=>by
  simp only [List.cons_append,fopsE] at h ⊢
  obtain ⟨hp1,hp2⟩:=List.pairwise_cons.1 hp
  cases hj:ops[j]? with
  | none =>
   simp only [hj,dsl,List.nil_append] at h ⊢
   exact pullE ho l2 l1 s (fun k hk=>hc k (by simp [hk])) hp2 h
  | some x =>
   simp only [hj,dsl] at h ⊢
   refine oswapE (hc j (by simp) x hj) (fun d hd=>?_) (osE_mono (fun s' h'=>pullE ho l2 l1 s' (fun k hk=>hc k (by simp [hk])) hp2 h') h)
   obtain ⟨k,hk,y,h1,h2⟩:=dsl_mem hd
   exact hp1 k hk x y hj h1 d h2
def RCH (ops:Array Oper) (i j:Nat):Prop:=∀ listed:Array Bool,Closed ops listed→(∀ o,ops[i]? = some o→∀ e ∈ o.after,Region.binds .any e=true→listed.getD e.on false=true)→listed.getD j false=true
def mskOf (t:List Nat):List Edge→Nat
 | []=>0
 | e::l=>match Region.binds .any e with
  | true=>((1 <<< e.on) ||| t.getD e.on 0) ||| mskOf t l
  | false=>mskOf t l
def mskTbl:List Oper→List Nat→List Nat
 | [],t=>t
 | o::l,t=>mskTbl l (t++[mskOf t o.after.toList])
theorem mskOf_bit {t:List Nat} {j:Nat}:∀ {l:List Edge},(mskOf t l).testBit j=true→∃ e ∈ l,Region.binds .any e=true∧(e.on=j∨(t.getD e.on 0).testBit j=true)
 | [],h=>by simp [mskOf] at h
 | e::l,h=>by
  simp only [mskOf] at h
  split at h
  ·rename_i hb
   rw [Nat.testBit_or,Nat.testBit_or,Bool.or_eq_true,Bool.or_eq_true] at h
   rcases h with (h | h) | h
   ·rw [Nat.one_shiftLeft,Nat.testBit_two_pow] at h
    exact ⟨e,by simp,hb,.inl (by simpa using h)⟩
   ·exact ⟨e,by simp,hb,.inr h⟩
   ·obtain ⟨e',he,hb'⟩:=mskOf_bit h
    exact ⟨e',by simp [he],hb'⟩
  ·obtain ⟨e',he,hb'⟩:=mskOf_bit h
   exact ⟨e',by simp [he],hb'⟩
theorem mskTbl_ok {ops:Array Oper}:∀ (l pre:List Oper) (t:List Nat),ops.toList=pre++l→t.length=pre.length→(∀ i j,(t.getD i 0).testBit j=true→RCH ops i j)→∀ i j,((mskTbl l t).getD i 0).testBit j=true→RCH ops i j
 | [],pre,t,_,_,h=>h
 | o::l,pre,t,ho,hl,h=>by
  refine mskTbl_ok l (pre++[o]) _ (by rw [ho];simp) (by simp [hl]) fun i j hb=>?_
  rw [List.getD_eq_getElem?_getD] at hb
  by_cases hi:i < t.length
  ·rw [List.getElem?_append_left hi] at hb
   exact h i j (by rw [List.getD_eq_getElem?_getD];exact hb)
  ·by_cases hi2:i=t.length
   ·subst hi2
    rw [List.getElem?_append_right (Nat.le_refl _),Nat.sub_self] at hb
    simp only [List.getElem?_cons_zero,Option.getD_some] at hb
    obtain ⟨e,he,hbi,hj⟩:=mskOf_bit hb
    intro listed hc ha
    have ho2:ops[t.length]? = some o:=by
     rw [← Array.getElem?_toList,ho,hl,List.getElem?_append_right (Nat.le_refl _),Nat.sub_self];rfl
    have hle:=ha o ho2 e (by simpa using he) hbi
    rcases hj with rfl | hj
    ·exact hle
    ·exact h e.on j hj listed hc fun o' ho' e' he' hb'=>hc e.on o' ho' hle e' he' hb'
   ·rw [List.getElem?_eq_none (by simp;omega)] at hb
    simp at hb
def chkL (tb:Tb) (n:List Nat) (ops:Array Oper):List Nat→List Nat→Bool
 | _,[]=>true
 | pre,i::l=>(match ops[i]? with
  | some o=>!pre.contains i && ((o.after.toList.all fun e=>!Region.binds .any e || pre.contains e.on) && ((pre.all fun j=>match ops[j]? with
    | some x=>(commE tb ops x o || ((n.getD i 0).testBit j || (isY x && isTn tb o))) && (match o.dst with | some d=>!(x.looksAt ops).contains d && !(x.dst == some d) | none=>true)
    | none=>false) &&
    (!isY o || l.all fun j=>match ops[j]? with
     | some x=>x.after.any (fun e=>Region.binds .any e && e.on == i) || o.apart ops x
     | none=>false)))
  | none=>false) && chkL tb n ops (pre++[i]) l
def chkE (tb:Tb) (n:List Nat) (ops:Array Oper) (L:List Nat):Bool :=
 (mskTbl ops.toList [] == n) && decide (L.length≤ops.size) && Region.noSelect ops && ((List.range ops.size).all fun i=>L.contains i) && chkL tb n ops [] L
structure LOk (tb:Tb) (n:List Nat) (ops:Array Oper) (pre:List Nat) (i:Nat) (l:List Nat) (o:Oper):Prop where
 ho:ops[i]? = some o
 new:i ∉ pre
 aft:∀ e ∈ o.after,Region.binds .any e=true→e.on ∈ pre
 pr:∀ j ∈ pre,∃ x,ops[j]? = some x∧(commE tb ops x o=true∨(n.getD i 0).testBit j=true∨(isY x=true∧isTn tb o=true))∧DJ ops x o
 fr:isY o=true→∀ j ∈ l,∀ x,ops[j]? = some x→(∃ e ∈ x.after,Region.binds .any e=true∧e.on=i)∨o.apart ops x=true
theorem chkL_spec {tb:Tb} {n:List Nat} {ops:Array Oper}:∀ {L pre l:List Nat} {i:Nat} {pre0:List Nat},chkL tb n ops pre0 L=true→L=pre++i::l→∃ o,LOk tb n ops (pre0++pre) i l o
 | L,[],l,i,pre0,h,e=>by
  subst e
  simp only [List.nil_append,chkL,Bool.and_eq_true] at h
  obtain ⟨h,_⟩:=h
  split at h
  ·rename_i o ho
   simp only [Bool.and_eq_true,Bool.not_eq_true'] at h
   obtain ⟨h1,h2,h3,h4⟩:=h
   rw [List.append_nil]
   refine ⟨o,ho,by simpa using h1,fun e he hb=>?_,fun j hj=>?_,fun hy j hj x hx=>?_⟩
   ·have:=(List.all_eq_true.1 h2) e (by simpa using he)
    simpa [hb] using this
   ·have:=(List.all_eq_true.1 h3) j hj
    split at this
    ·rename_i x hx
     simp only [Bool.and_eq_true,Bool.or_eq_true] at this
     refine ⟨x,hx,this.1,fun d hd=>?_⟩
     have h5:=this.2
     rw [hd] at h5
     simp only [Bool.and_eq_true,Bool.not_eq_true',beq_eq_false_iff_ne,ne_eq] at h5
     exact ⟨by simpa using h5.1,h5.2⟩
    ·cases this
   ·rw [hy] at h4
    simp only [Bool.not_true,Bool.false_or] at h4
    have:=(List.all_eq_true.1 h4) j hj
    rw [hx] at this
    simp only [Bool.or_eq_true] at this
    rcases this with h5 | h5
    ·obtain ⟨e,he,hb⟩:=Array.any_eq_true'.1 h5
     simp only [Bool.and_eq_true,beq_iff_eq] at hb
     exact .inl ⟨e,he,hb.1,hb.2⟩
    ·exact .inr h5
  ·cases h
 | L,p::pre,l,i,pre0,h,e=>by
  subst e
  simp only [List.cons_append,chkL,Bool.and_eq_true] at h
  have:=chkL_spec (pre:=pre) (l:=l) (i:=i) h.2 rfl
  rwa [List.append_assoc] at this
def remL (L:List Nat) (listed:Array Bool):List Nat:=L.filter fun i=>!listed.getD i false
theorem yok {E:En} {tb:Tb} (hE:TbOk E tb) {ops:Array Oper} {o:Oper} (hy:isY o=true) {s:FS} {a:Act} {w:World} (h:RF E s a w) {K:FS→Prop} (hs:osE [] tb ops o s K) :
  ∃ v s',(∀ w2,(execOp a.eval o).run E.P w2 = .ok (.value v) w2)∧RF E s' (a.put o.dst v) w∧K s':=by
 obtain ⟨st,rfl,hr⟩:=h
 unfold osE at hs
 rw [if_neg (by simp [isTn,isY_isT hy])] at hs
 unfold osD at hs
 rw [if_neg (by simp [isY_isMk hy])] at hs
 unfold osem at hs
 rw [if_neg (by simp [isY_isT hy])] at hs
 obtain ⟨q,h1,h2,h3,h4,h5⟩:=hs
 have hg:o.guard=none:=by simp only [isY,Bool.and_eq_true,Option.isNone_iff_eq_none] at hy;exact hy.1
 have e1:dres tb o.op st.ev st.fs.m=some q:=by
  unfold gres at h1
  rw [hg] at h1
  simp only at h1
  rw [fs_ev] at h1
  have hy2:=hy
  simp only [isY,Bool.and_eq_true] at hy2
  match hop:o.op,hy2.2 with
  | .move x,_=>rw [hop] at h1;exact h1
  | .assign x,_=>rw [hop] at h1;exact h1
  | .extract x k,_=>rw [hop] at h1;exact h1
  | .fieldAddr t x k,_=>rw [hop] at h1;exact h1
 unfold dres at e1
 split at e1
 ·rename_i c r hd
  obtain rfl:=Option.some.inj e1
  have hd2:dop tb.T tb.gl o.op st.ev (fun k=>lkm k st.m)=some (c,r):=by
   have hy2:=hy
   simp only [isY,Bool.and_eq_true] at hy2
   match hop:o.op,hy2.2 with
   | .move x,_=>rw [hop] at hd;exact hd
   | .assign x,_=>rw [hop] at hd;exact hd
   | .extract x k,_=>rw [hop] at hd;exact hd
   | .fieldAddr t x k,_=>rw [hop] at hd;exact hd
  obtain ⟨v,k1,k2⟩:=ydet hy hr hE.T (hgl_of hE hr) hd2 h2
  refine ⟨v,(st.put o.dst r).fs,k1,⟨_,rfl,k2⟩,?_⟩
  have:=h5 r rfl
  rw [fs_put0]
  exact this
 ·cases e1
theorem pairL {tb:Tb} {n:List Nat} {ops:Array Oper}:∀ {L pre0:List Nat},chkL tb n ops pre0 L=true→L.Pairwise (fun j k=>∀ x y,ops[j]? = some x→ops[k]? = some y→DJ ops x y)
 | [],_,_=>.nil
 | i::l,pre0,h=>by
  have h0:=h
  simp only [chkL,Bool.and_eq_true] at h
  refine List.pairwise_cons.2 ⟨fun k hk x y hx hy=>?_,pairL h.2⟩
  obtain ⟨p1,p2,rfl⟩:=List.append_of_mem hk
  obtain ⟨o,ok⟩:=chkL_spec (pre:=i::p1) (l:=p2) (i:=k) h0 rfl
  have e:y=o:=Option.some.inj (hy.symm.trans ok.ho)
  subst e
  obtain ⟨x',hx',_,hdj⟩:=ok.pr i (by simp)
  rw [hx] at hx'
  obtain rfl:=Option.some.inj hx'
  exact hdj
theorem remL_set {L pre post:List Nat} {i:Nat} {listed:Array Bool} (hL:L=pre++i::post) (h1:i ∉ pre) (h2:i ∉ post) (hi:i < listed.size):remL L (listed.setIfInBounds i true)=remL pre listed++remL post listed:=by
 have e:∀ l:List Nat,i ∉ l→remL l (listed.setIfInBounds i true)=remL l listed:=fun l hl=>by
  unfold remL
  refine List.filter_congr fun j hj=>?_
  rw [getD_set_ne false (fun e=>hl (by rw [e];exact hj))]
 subst hL
 have e2:=e pre h1
 have e3:=e post h2
 unfold remL at *
 rw [List.filter_append,List.filter_cons,e2,e3]
 have:(listed.setIfInBounds i true).getD i false=true:=by simp [hi]
 rw [this]
 rfl
theorem any_okE {E:En} {tb:Tb} (hE:TbOk E tb) {ops:Array Oper} {n:List Nat} {L:List Nat} (hck:chkE tb n ops L=true) {K:FS→Prop} {Q:Exit→Act→World→Prop} (hQ:∀ c a w,¬ Q (.panic c) a w) (hK:∀ s a w,RF E s a w→K s→Q .normal a w) :
  ∀ (fuel:Nat) (listed:Array Bool) (s:FS) (a:Act) (w:World),listed.size=ops.size→Closed ops listed→(remL L listed).length≤fuel→RF E s a w→fopsE tb ops (remL L listed) s K→wpAny E.P .any ops Q fuel listed a w:=by
 simp only [chkE,Bool.and_eq_true] at hck
 obtain ⟨⟨⟨⟨hmt,_⟩,hsel⟩,hall⟩,hck⟩:=hck
 have hmt:mskTbl ops.toList []=n:=by simpa using hmt
 have hR:∀ i j,(n.getD i 0).testBit j=true→RCH ops i j:=fun i j=>by
  rw [← hmt]
  exact mskTbl_ok ops.toList [] [] rfl rfl (fun i j h=>by simp at h) i j
 have hmemL:∀ i,i < ops.size→i ∈ L:=fun i hi=>by
  have:=(List.all_eq_true.1 hall) i (List.mem_range.2 hi)
  simpa using this
 have hq:∀ (listed:Array Bool) (i:Nat),listed.size=ops.size→i < ops.size→listed.getD i true=listed.getD i false:=fun listed i h hi=>by
  have:i < listed.size:=by omega
  simp [this]
 have hnil:∀ (listed:Array Bool),listed.size=ops.size→remL L listed=[]→Region.ready .any ops listed=[]:=fun listed hsz h=>by
  rw [List.eq_nil_iff_forall_not_mem]
  intro i hi
  obtain ⟨h1,o,ho,_⟩:=mem_ready.1 hi
  have hlt:i < ops.size:=(Array.getElem?_eq_some_iff.1 ho).1
  rw [hq listed i hsz hlt] at h1
  have:i ∈ remL L listed:=List.mem_filter.2 ⟨hmemL i hlt,by rw [h1];rfl⟩
  rw [h] at this;cases this
 have hpost:∀ {pre post:List Nat} {i:Nat},L=pre++i::post→i ∉ post:=fun {pre post i} hL hm=>by
  obtain ⟨p1,p2,rfl⟩:=List.append_of_mem hm
  obtain ⟨o,ok⟩:=chkL_spec (pre:=pre++i::p1) (l:=p2) (i:=i) hck (by rw [hL];simp)
  exact ok.new (by simp)
 intro fuel
 induction fuel with
 | zero =>
  intro listed s a w hsz hcl hl hr hf
  have hn:remL L listed=[]:=List.eq_nil_of_length_eq_zero (by omega)
  rw [hn] at hf
  exact ⟨hnil listed hsz hn,hK s a w hr hf⟩
 | succ fuel ih =>
  intro listed s a w hsz hcl hl hr hf
  have closed:∀ i o,ops[i]? = some o→(∀ e ∈ o.after,Region.binds .any e=true→listed.getD e.on false=true)→Closed ops (listed.setIfInBounds i true):=fun i o ho h2=>by
   intro k ok hok hk e he hb
   refine getD_set_true ?_
   by_cases hki:i=k
   ·subst hki
    rw [ho] at hok;obtain rfl:=Option.some.inj hok
    exact h2 e he hb
   ·rw [getD_set_ne false hki] at hk
    exact hcl k ok hok hk e he hb
  cases hrem:remL L listed with
  | nil =>
   rw [hrem] at hf
   exact ⟨fun _=>hK s a w hr hf,fun i hi=>by rw [hnil listed hsz hrem] at hi;cases hi⟩
  | cons h l' =>
   obtain ⟨pre,post,hL,hpre,hh,hl'⟩:=List.filter_eq_cons_iff.1 hrem
   obtain ⟨oh,okh⟩:=chkL_spec (pre:=pre) (l:=post) (i:=h) hck hL
   simp only [List.nil_append] at okh
   have hlth:h < ops.size:=(Array.getElem?_eq_some_iff.1 okh.ho).1
   have hpre':∀ j ∈ pre,listed.getD j false=true:=fun j hj=>by simpa using hpre j hj
   have hhu:listed.getD h false=false:=by simpa using hh
   by_cases hyh:isY oh=true
   ·-- taken at once
    have hf2:osE [] tb ops oh s fun s'=>fopsE tb ops l' s' K:=by
     rw [hrem] at hf
     simp only [fopsE,okh.ho] at hf
     exact hf
    obtain ⟨v,s',k1,k2,k3⟩:=yok hE hyh hr hf2
    have hg:oh.guard=none:=by simp only [isY,Bool.and_eq_true,Option.isNone_iff_eq_none] at hyh;exact hyh.1
    have hafter:∀ e ∈ oh.after,Region.binds .any e=true→listed.getD e.on false=true:=fun e he hb=>hpre' _ (okh.aft e he hb)
    refine wpAny_first okh.ho (Region.noSelect_spec hsel) (fun c a w hp=>absurd hp (hQ _ _ _)) fuel listed a w (fun j oj hj hne hun hno=>?_) (mem_ready.2 ⟨by rw [hq listed h hsz hlth];exact hhu,oh,okh.ho,hafter⟩) (.inl ⟨by simp [Region.wanted,hg],k1⟩) ?_
    ·have hltj:j < ops.size:=(Array.getElem?_eq_some_iff.1 hj).1
     have hjL:=hmemL j hltj
     rw [hL] at hjL
     rcases List.mem_append.1 hjL with hjp | hjp
     ·have:=hpre' j hjp
      rw [hq listed j hsz hltj] at hun
      rw [hun] at this;cases this
     ·rcases List.mem_cons.1 hjp with rfl | hjp
      ·exact absurd rfl hne
      ·rcases okh.fr hyh j hjp oj hj with ⟨e,he,hb,heq⟩ | hap
       ·exact absurd heq (hno e he hb)
       ·exact hap
    ·have e2:remL L (listed.setIfInBounds h true)=l':=by
      rw [remL_set hL okh.new (hpost hL) (by omega)]
      have:remL pre listed=[]:=List.filter_eq_nil_iff.2 fun j hj=>hpre j hj
      rw [this,List.nil_append]
      exact hl'
     refine ih _ s' _ w (by simpa using hsz) (closed h oh okh.ho hafter) ?_ k2 ?_
     ·rw [e2];rw [hrem] at hl;simp only [List.length_cons] at hl;omega
     ·rw [e2];exact k3
   ·refine ⟨fun h0=>?_,fun i hi=>?_⟩
    ·exfalso
     have:h ∈ Region.ready .any ops listed:=mem_ready.2 ⟨by rw [hq listed h hsz hlth];exact hhu,oh,okh.ho,fun e he hb=>hpre' _ (okh.aft e he hb)⟩
     rw [h0] at this;cases this
    ·obtain ⟨h1,o,ho,h2⟩:=mem_ready.1 hi
     have hlt:i < ops.size:=(Array.getElem?_eq_some_iff.1 ho).1
     rw [hq listed i hsz hlt] at h1
     obtain ⟨prei,posti,hLi⟩:=List.append_of_mem (hmemL i hlt)
     obtain ⟨o',oki⟩:=chkL_spec (pre:=prei) (l:=posti) (i:=i) hck hLi
     simp only [List.nil_append] at oki
     obtain rfl:o=o':=Option.some.inj (ho.symm.trans oki.ho)
     have e1:remL L listed=remL prei listed++i::remL posti listed:=by
      unfold remL
      rw [hLi,List.filter_append,List.filter_cons,h1]
      rfl
     have e2:remL L (listed.setIfInBounds i true)=remL prei listed++remL posti listed:=remL_set hLi oki.new (hpost hLi) (by omega)
     have hnr:∀ j ∈ remL prei listed,(n.getD i 0).testBit j=true→False:=fun j hj h=>by
      have:=hR i j h listed hcl (fun o' ho' e he hb=>by rw [ho] at ho';obtain rfl:=Option.some.inj ho';exact h2 e he hb)
      have h3:=(List.mem_filter.1 hj).2
      rw [this] at h3;cases h3
     have hT:isTn tb o=true→remL prei listed=[]:=fun ht=>by
      cases hp:remL prei listed with
      | nil=>rfl
      | cons x xs =>
       exfalso
       rw [hp] at e1
       rw [hrem] at e1
       obtain ⟨rfl,_⟩:=List.cons.inj e1
       have hxm:h ∈ remL prei listed:=by rw [hp];simp
       obtain ⟨x,hx,hc,_⟩:=oki.pr h (List.mem_filter.1 hxm).1
       rw [okh.ho] at hx
       obtain rfl:=Option.some.inj hx
       rcases hc with hc | hc | hc
       ·simp only [commE,Bool.and_eq_true,Bool.not_eq_true'] at hc
        rw [ht] at hc;cases hc.1.2
       ·exact hnr h hxm hc
       ·exact hyh hc.1
     have hp:=pullE (l1:=remL prei listed) ho (remL posti listed) s (fun j hj x hx=>by
      obtain ⟨x',hx',hc,_⟩:=oki.pr j (List.mem_filter.1 hj).1
      rw [hx] at hx'
      obtain rfl:=Option.some.inj hx'
      rcases hc with hc | hc | hc
      ·exact hc
      ·exact (hnr j hj hc).elim
      ·rw [hT hc.2] at hj;cases hj) (by
      have hsr:=pairL hck
      rw [hLi] at hsr
      exact (List.pairwise_append.1 hsr).1.filter _) (by rw [← e1];exact hf)
     refine osE_ok hE ho hr hp fun s' a' w' h' hk=>ih _ s' a' w' (by simpa using hsz) (closed i o ho h2) (by rw [e2];rw [e1] at hl;simp only [List.length_append,List.length_cons] at hl ⊢;omega) h' (by rw [e2];exact hk)
def ordL (ops:List Oper):List Nat→List Oper
 | []=>[]
 | i::l=>match ops[i]? with
  | some o=>o::ordL ops l
  | none=>ordL ops l
def dstpE (tb:Tb) (ops:List Oper) (o:Oper) (st:St) (K:St→Prop):Prop :=
 match isTn tb o with
 | true=>stp tb o st K
 | false=>dstpM tb ops o st K
def daopsE (tb:Tb) (ops:List Oper):List Oper→St→(St→Prop)→Prop
 | [],st,K=>K st
 | o::l,st,K=>dstpE tb ops o st fun st'=>daopsE tb ops l st' K
theorem dstpE_osE {tb:Tb} {ops:List Oper} {o:Oper} {st:St} {K:St→Prop} {K':FS→Prop} (hk:∀ st',K st'→K' st'.fs) (h:dstpE tb ops o st K):osE [] tb ops.toArray o st.fs K':=by
 unfold dstpE at h
 unfold osE
 split at h
 ·rename_i ht
  rw [if_pos ht]
  exact ⟨st,rfl,stp_mono hk h⟩
 ·rename_i ht
  rw [if_neg (by simp [ht])]
  exact dstpM_osD hk h
theorem daopsE_fopsE {tb:Tb} {ops:List Oper} {K:St→Prop} {K':FS→Prop} (hk:∀ st',K st'→K' st'.fs):∀ (L:List Nat) (st:St),daopsE tb ops (ordL ops L) st K→fopsE tb ops.toArray L st.fs K'
 | [],st,h=>hk st h
 | i::l,st,h=>by
  simp only [ordL] at h
  simp only [fopsE,List.getElem?_toArray]
  split at h
  ·exact osE_mono (fun s' h'=>h') (dstpE_osE (K':=fun s'=>fopsE tb ops.toArray l s' K') (fun st' h'=>daopsE_fopsE hk l st' h') h)
  ·exact daopsE_fopsE hk l st h
theorem Aw_drawE {E:En} {tb:Tb} (hE:TbOk E tb) {id:Nat} {l:List Oper} {st:St} {Q:Exit→St→Prop} (L0:List Nat) (n:List Nat) (L Lm:List Nat) (hck:chkE tb n l.toArray L0=true) (h:daopsE tb l (ordL l L0) st fun st'=>Q .normal (st'.keep L Lm)):Aw E (.region id l.toArray true) st Q:=by
 intro a w hr
 refine Code.wp_mono (Q:=fun e a' w'=>e = .normal∧∃ st',R E st' a' w'∧Q .normal st') (fun e a' w' ⟨he,h⟩=>by subst he;exact h) ?_
 refine wp_region_any hE.mx ?_
 have hrem:remL L0 (Array.replicate l.toArray.size false)=L0:=by
  unfold remL
  apply List.filter_eq_self.2
  intro i hi
  simp only [Array.getD_eq_getD_getElem?,Array.getElem?_replicate]
  split<;>rfl
 have hlen:L0.length≤l.toArray.size:=by
  simp only [chkE,Bool.and_eq_true,decide_eq_true_eq] at hck
  exact hck.1.1.1.2
 refine any_okE hE hck (K:=fun s=>∃ st':St,st'.fs=s∧Q .normal (st'.keep L Lm)) (fun c a w h=>by cases h.1) (fun s a' w' ⟨st1,h1,h2⟩ ⟨st2,h3,h4⟩=>⟨rfl,_,(h2.eqv (eqv_of_fs (h1.trans h3.symm))).keep L Lm,h4⟩) _ _ st.fs a _ (by simp) (fun i o ho hl=>?_) (by rw [hrem];exact hlen) ⟨st,rfl,hr.drew⟩ ?_
 ·exfalso
  have:i < l.toArray.size:=(Array.getElem?_eq_some_iff.1 ho).1
  simp only [List.size_toArray] at this
  simp [this] at hl
 ·rw [hrem]
  exact daopsE_fopsE (fun st' h'=>⟨st',rfl,h'⟩) L0 st h
theorem Aw_se {E:En} {tb:Tb} {st:St} {Q:Exit→St→Prop} (hE:TbOk E tb) {id:Nat} {l:List Oper} {y:Code} (L0:List Nat) (n:List Nat) (L Lm:List Nat) (hck:chkE tb n l.toArray L0=true) (h:∀ K:St→Prop,(∀ st',Aw E y st' Q→K st')→daopsE tb l (ordL l L0) st fun st'=>K (st'.keep L Lm)):Aw E (.seq (.region id l.toArray true) y) st Q :=
 Aw_seq (Aw_drawE hE L0 n L Lm hck (h _ fun _ h=>h))
section
variable {tb:Tb} {ops:List Oper} {o:Oper} {l:List Oper} {K:St→Prop} {nt rn:Nat} {σ:List (Nat × AV)} {m:List (Nat × List AV)}
theorem daopsE_nil {st:St}:daopsE tb ops [] st K=K st:=rfl
theorem daopsE_mk:daopsE tb ops (o::l) ⟨nt,σ,m,rn⟩ K=dstpE tb ops o ⟨nt,σ,m,rn⟩ fun st'=>daopsE tb ops l st' K:=rfl
end
attribute [go_sem] daopsE_nil daopsE_mk dstpE ordL isTn isT isMk isMkO Option.isNone_none Option.isNone_some Bool.and_true Bool.and_false Bool.true_and Bool.false_and
theorem daopsE_app {tb:Tb} {ops:List Oper} {K:St→Prop}:∀ (l1 l2:List Oper) (st:St),daopsE tb ops (l1++l2) st K=daopsE tb ops l1 st fun st'=>daopsE tb ops l2 st' K
 | [],l2,st=>rfl
 | o::l1,l2,st=>by
  show dstpE tb ops o st _=dstpE tb ops o st _
  congr 1
  funext st'
  exact daopsE_app l1 l2 st'
theorem daopsE_cut (n:Nat) {tb:Tb} {ops l:List Oper} {st:St} {K:St→Prop} (h:∀ K1:St→Prop,(∀ st',daopsE tb ops (l.drop n) st' K→K1 st')→daopsE tb ops (l.take n) st K1):daopsE tb ops l st K:=by
 have:=h _ fun _ h=>h
 rw [← daopsE_app,List.take_append_drop] at this
 exact this
mutual
def AV.swb (d d':Nat):AV→AV
 | .v x=>.v x
 | .nl=>.nl
 | .sl t els=>.sl t els
 | .agg ls=>.agg (AV.swbAll d d' ls)
 | .tup ls=>.tup (AV.swbAll d d' ls)
 | .cl f b ls=>.cl f b (AV.swbAll d d' ls)
 | .loc k off=>.loc (Eng.swp d d' k) off
 | .xs k off n cap sz=>.xs (Eng.swp d d' k) off n cap sz
 | .el ls=>.el ls
 | .rd=>.rd
 | .dv x=>.dv x
 | .mr k=>.mr (Eng.swp d d' k)
 | .mb t=>.mb t
 | .junk=>.junk
def AV.swbAll (d d':Nat):List AV→List AV
 | []=>[]
 | x::l=>x.swb d d'::AV.swbAll d d' l
end
theorem AV.swbAll_eq (d d':Nat) (ls:List AV):AV.swbAll d d' ls=ls.map (·.swb d d'):=by
 induction ls with
 | nil=>rfl
 | cons x l ih=>simp [AV.swbAll,ih]
def swbσ (d d':Nat):List (Nat × AV)→List (Nat × AV)
 | []=>[]
 | (y,v)::l=>(y,v.swb d d')::swbσ d d' l
def swbm (d d':Nat):List (Nat × List AV)→List (Nat × List AV)
 | []=>[]
 | (y,v)::l=>(Eng.swp d d' y,AV.swbAll d d' v)::swbm d d' l
def St.swb (st:St) (d d':Nat):St:={ st with σ:=swbσ d d' st.σ,m:=swbm d d' st.m }
theorem bk_swp {d d':Nat} (hd:d < 920) (hd':d' < 920) (k:Nat):bk (Eng.swp d d' k)=bk k:=by
 unfold Eng.swp
 split
 ·rename_i e;subst e;rw [bk_lt hd,bk_lt hd']
 ·split
  ·rename_i e;subst e;rw [bk_lt hd,bk_lt hd']
  ·rfl
theorem Rd.swb {c:Gh} (d d':Nat) (hd:d < 920) (hd':d' < 920) {x:AV} {v:Value} (h:Rd c x v):Rd { c with β:=fun k=>c.β (Eng.swp d d' k) } (x.swb d d') v:=by
 have hβ:∀ k,c.β k=({ c with β:=fun k=>c.β (Eng.swp d d' k) }:Gh).β (Eng.swp d d' k):=fun k=>by show c.β k=c.β _;rw [swp_swp]
 induction h with
 | v x h=>exact .v x h
 | junk x=>exact .junk x
 | nl=>exact .nl
 | rd=>exact .rd
 | dv x v h=>exact .dv x v h
 | loc k off hb=>rw [hβ k];exact .loc _ off ((bk_swp hd hd' k).trans hb)
 | mr1 k hb=>rw [hβ k];exact .mr1 _ ((bk_swp hd hd' k).trans hb)
 | mr2 k hb=>rw [hβ k];exact .mr2 _ ((bk_swp hd hd' k).trans hb)
 | mb t=>exact .mb t
 | xs k off n cap sz hc hb=>rw [hβ k];exact .xs _ off n cap sz hc ((bk_swp hd hd' k).trans hb)
 | sl tok els v h ht=>exact .sl tok els v h ht
 | agg ls cs hn _ ih =>
  simp only [AV.swb,AV.swbAll_eq]
  refine .agg _ cs (by simpa using hn) fun j x hx=>?_
  obtain ⟨y,hy,rfl⟩:=by simpa using hx
  exact ih j y hy
 | tup ls cs hn _ ih =>
  simp only [AV.swb,AV.swbAll_eq]
  refine .tup _ cs (by simpa using hn) fun j x hx=>?_
  obtain ⟨y,hy,rfl⟩:=by simpa using hx
  exact ih j y hy
 | cl1 fu ls cs hn _ ih =>
  simp only [AV.swb,AV.swbAll_eq]
  refine .cl1 fu _ cs (by simpa using hn) fun j x hx=>?_
  obtain ⟨y,hy,rfl⟩:=by simpa using hx
  exact ih j y hy
 | cl2 fu ls cs hn _ ih =>
  simp only [AV.swb,AV.swbAll_eq]
  refine .cl2 fu _ cs (by simpa using hn) fun j x hx=>?_
  obtain ⟨y,hy,rfl⟩:=by simpa using hx
  exact ih j y hy
 | el ls b off f hc hh=>exact .el ls b off f hc hh
inductive Sch where
 | done
 | non
 | cut (t:Sch)
 | fst (i:Nat) (t:Sch)
 | alt (i:Nat) (t r:Sch)
def Sch.heads:Sch→List Nat
 | .alt i _ r=>i::r.heads
 | _=>[]
def Sch.dep:Sch→Nat
 | .done=>0
 | .non=>0
 | .cut t=>t.dep
 | .fst _ t=>t.dep + 1
 | .alt _ t r=>max (t.dep + 1) r.dep
def chkS (ops:Array Oper):Sch→Bool→Array Bool→Bool
 | .done,top,listed=>top && (Region.ready .any ops listed).isEmpty
 | .non,top,_=>!top
 | .cut t,top,listed=>top && chkS ops t true listed
 | .fst i t,top,listed=>top && ((match ops[i]? with | some o=>isY o | none=>false) && (Region.free .any ops listed i && ((Region.ready .any ops listed).contains i && chkS ops t true (listed.setIfInBounds i true))))
 | .alt i t r,top,listed=>(!top || (Region.ready .any ops listed).all fun j=>(i::r.heads).contains j) && ((Region.ready .any ops listed).contains i && (chkS ops t true (listed.setIfInBounds i true) && chkS ops r false listed))
def enumS (E:En) (tb:Tb) (ops:List Oper):Sch→St→(St→Prop)→Prop
 | .done,st,K=>K st
 | .non,_,_=>True
 | .cut t,st,K=>∃ st',LeE E st st'∧enumS E tb ops t st' K
 | .fst i t,st,K=>match ops[i]? with
  | some o=>match dop tb.T tb.gl o.op st.ev (fun k=>lkm k st.m) with
   | some (c,r)=>c∧enumS E tb ops t (st.put o.dst r) K
   | none=>False
  | none=>False
 | .alt i t r,st,K=>(match ops[i]? with
  | some o=>stpG tb ops o st fun st'=>enumS E tb ops t st' K
  | none=>False)∧enumS E tb ops r st K
theorem any_okS {E:En} {tb:Tb} (hE:TbOk E tb) {ops:List Oper} (hsel:Region.noSelect ops.toArray=true) {K:St→Prop} {Q:Exit→Act→World→Prop} (hQ:∀ c a w,¬ Q (.panic c) a w) (hK:∀ st a w,R E st a w→K st→Q .normal a w) :
  ∀ (t:Sch) (top:Bool) (listed:Array Bool) (st:St) (a:Act) (w:World),chkS ops.toArray t top listed=true→R E st a w→enumS E tb ops t st K→
   (top=true→∀ fuel,t.dep≤fuel→wpAny E.P .any ops.toArray Q fuel listed a w)∧
   (top=false→∀ fuel,t.dep≤fuel + 1→∀ i ∈ t.heads,wpOp E.P ops.toArray Q i (wpAny E.P .any ops.toArray Q fuel (listed.setIfInBounds i true)) a w)
 | .done,top,listed,st,a,w,hc,hr,he=>by
  simp only [chkS,Bool.and_eq_true] at hc
  refine ⟨fun _ fuel _=>wpAny_done (by simpa using hc.2) (hK _ _ _ hr he) fuel,fun h=>?_⟩
  rw [h] at hc;cases hc.1
 | .non,top,listed,st,a,w,hc,hr,he=>by
  simp only [chkS] at hc
  exact ⟨fun h=>(by rw [h] at hc;cases hc),fun _ fuel _ i hi=>(by cases hi)⟩
 | .cut t,top,listed,st,a,w,hc,hr,he=>by
  simp only [chkS,Bool.and_eq_true] at hc
  obtain ⟨st',h1,h2⟩:=he
  refine ⟨fun _ fuel hf=>(any_okS hE hsel hQ hK t true listed st' a w hc.2 (h1 a w hr) h2).1 rfl fuel hf,fun h=>?_⟩
  rw [h] at hc;cases hc.1
 | .fst i t,top,listed,st,a,w,hc,hr,he=>by
  simp only [chkS,Bool.and_eq_true] at hc
  obtain ⟨c1,c2,c3,c4,c5⟩:=hc
  refine ⟨fun _ fuel hf=>?_,fun h=>by rw [h] at c1;cases c1⟩
  simp only [enumS] at he
  simp only [List.getElem?_toArray] at c2
  cases ho:ops[i]? with
  | none=>rw [ho] at c2;cases c2
  | some o =>
   rw [ho] at c2 he
   simp only at c2 he
   cases hd:dop tb.T tb.gl o.op st.ev (fun k=>lkm k st.m) with
   | none=>rw [hd] at he;exact he.elim
   | some cr =>
    obtain ⟨cc,r⟩:=cr
    rw [hd] at he
    obtain ⟨he1,he2⟩:=he
    obtain ⟨v,k1,k2⟩:=ydet c2 hr hE.T (hgl_of hE hr) hd he1
    have hg:o.guard=none:=by simp only [isY,Bool.and_eq_true,Option.isNone_iff_eq_none] at c2;exact c2.1
    cases fuel with
    | zero=>simp only [Sch.dep] at hf;omega
    | succ fuel =>
     simp only [Sch.dep] at hf
     exact wpAny_take (i:=i) (oi:=o) (v:=v) (by simp [ho]) hsel c3 c4 (fun c a w hp=>absurd hp (hQ _ _ _)) (.inl ⟨by simp [Region.wanted,hg],k1⟩)
      ((any_okS hE hsel hQ hK t true _ _ _ w c5 k2 he2).1 rfl fuel (by omega))
 | .alt i t r,top,listed,st,a,w,hc,hr,he=>by
  simp only [chkS,Bool.and_eq_true] at hc
  obtain ⟨c1,c2,c3,c4⟩:=hc
  simp only [enumS] at he
  obtain ⟨he1,he2⟩:=he
  have hrest:=(any_okS hE hsel hQ hK r false listed st a w c4 hr he2).2 rfl
  have hhead:∀ fuel,t.dep≤fuel→wpOp E.P ops.toArray Q i (wpAny E.P .any ops.toArray Q fuel (listed.setIfInBounds i true)) a w:=fun fuel hf=>by
   cases ho:ops[i]? with
   | none=>rw [ho] at he1;exact he1.elim
   | some o =>
    rw [ho] at he1
    simp only at he1
    have:=stpG_ok hE hr he1 (next:=wpAny E.P .any ops.toArray Q fuel (listed.setIfInBounds i true)) (Q:=Q) fun st' a' w' h' hk =>
     (any_okS hE hsel hQ hK t true _ st' a' w' c3 h' hk).1 rfl fuel hf
    unfold wpOp
    simp only [List.getElem?_toArray,ho]
    split at this
    ·rename_i hw;rw [if_pos hw];exact .inl this
    ·rename_i hw;rw [if_neg hw];exact this
  have hall:∀ fuel,(Sch.alt i t r).dep≤fuel + 1→∀ j ∈ (Sch.alt i t r).heads,wpOp E.P ops.toArray Q j (wpAny E.P .any ops.toArray Q fuel (listed.setIfInBounds j true)) a w:=fun fuel hf j hj=>by
   simp only [Sch.dep] at hf
   rcases List.mem_cons.1 hj with rfl | hj
   ·exact hhead fuel (by omega)
   ·exact hrest fuel (by omega) j hj
  refine ⟨fun ht fuel hf=>?_,fun _=>hall⟩
  cases fuel with
  | zero=>simp only [Sch.dep] at hf;omega
  | succ fuel =>
   refine ⟨fun h0=>?_,fun j hj=>hall fuel hf j ?_⟩
   ·rw [h0] at c2;cases c2
   ·subst ht
    simp only [Bool.not_true,Bool.false_or] at c1
    have:=(List.all_eq_true.1 c1) j hj
    simpa [Sch.heads] using this
def chkSt (t:Sch) (l:List Oper):Bool:=Region.noSelect l.toArray && (decide (t.dep≤l.length) && chkS l.toArray t true (Array.replicate l.length false))
section
variable {E:En} {tb:Tb} {ops:List Oper} {o:Oper} {t r:Sch} {i:Nat} {st:St} {K:St→Prop} {nt rn:Nat} {σ:List (Nat × AV)} {m:List (Nat × List AV)}
theorem enumS_done:enumS E tb ops .done st K=K st:=rfl
theorem enumS_non:enumS E tb ops .non st K=True:=rfl
theorem enumS_fst:enumS E tb ops (.fst i t) ⟨nt,σ,m,rn⟩ K=(match ops[i]? with
  | some o=>match dop tb.T tb.gl o.op (⟨nt,σ,m,rn⟩:St).ev (fun k=>lkm k m) with
   | some (c,r)=>c∧enumS E tb ops t (St.put ⟨nt,σ,m,rn⟩ o.dst r) K
   | none=>False
  | none=>False):=rfl
theorem enumS_alt:enumS E tb ops (.alt i t r) ⟨nt,σ,m,rn⟩ K=((match ops[i]? with
  | some o=>stpG tb ops o ⟨nt,σ,m,rn⟩ fun st'=>enumS E tb ops t st' K
  | none=>False)∧enumS E tb ops r ⟨nt,σ,m,rn⟩ K):=rfl
theorem enumS_alt1:enumS E tb ops (.alt i t .non) ⟨nt,σ,m,rn⟩ K=(match ops[i]? with
  | some o=>stpG tb ops o ⟨nt,σ,m,rn⟩ fun st'=>enumS E tb ops t st' K
  | none=>False):=by simp [enumS]
end
attribute [go_sem] enumS_done enumS_non enumS_fst enumS_alt1 enumS_alt
end Go.Eng
end
