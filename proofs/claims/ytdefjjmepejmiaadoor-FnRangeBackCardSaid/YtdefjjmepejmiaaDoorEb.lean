/- YtdefjjmepejmiaaDoorEb: part of the proof that the law FnRangeBack returns true and leaves its argument as it was, for every input that the row speaks of (no condition of ours). -/
import Derived.Test.YtdefjjmepejmiaaDoorEa
import Derived.Orders
import Derived.Deep.Draws
import Derived.Sort.Grow
set_option linter.unusedVariables false
set_option linter.unusedSimpArgs false
section
namespace Go.Eng
open Go Go.RowKit

/-- the state by functions -/
structure FS where
  nt : Nat
  σ : Nat → AV
  m : Nat → Option (List AV)
  rn : Nat

def St.fs (st : St) : FS := ⟨st.nt, fun x => lk x st.σ, fun k => lkm k st.m, st.rn⟩

def FS.ev (s : FS) : Operand → AV
  | .tmp t => s.σ t
  | .const u => AV.ofVal u
  | .global g => .v (.pointer (some ⟨g, 0, none⟩))
  | .func f => .v (.func (.func f) #[] #[])

theorem fs_ev (st : St) : st.fs.ev = st.ev := by funext x; cases x <;> rfl

def FS.upd (s : FS) (dst : Option Nat) (r : AV) (k : Nat) : FS :=
  { s with σ := (match dst with | some d => if d < s.nt then fun x => if x = d then r else s.σ x else s.σ | none => s.σ), rn := s.rn + k }

theorem fs_put (st : St) (dst : Option Nat) (r : AV) (k : Nat) : St.fs { (st.put dst r) with rn := st.rn + k } = st.fs.upd dst r k := by
  unfold St.fs FS.upd St.put
  cases dst with
  | none => rfl
  | some d =>
    simp only
    split
    · simp only [lk]
    · rfl

theorem fs_put0 (st : St) (dst : Option Nat) (r : AV) : (st.put dst r).fs = st.fs.upd dst r 0 := by
  rw [← fs_put]; congr 1
  unfold St.put; split <;> try split
  all_goals rfl

theorem eqv_of_fs {a b : St} (h : a.fs = b.fs) : Eqv a b := by
  unfold St.fs at h
  injection h with h1 h2 h3 h4
  exact ⟨h1.symm, h4.symm, fun x => (congrFun h2 x).symm, fun k => (congrFun h3 k).symm⟩

theorem upd_comm (s : FS) (x y : Option Nat) (r r' : AV) (k k' : Nat) (h : ∀ d, x = some d → y ≠ some d) : (s.upd x r k).upd y r' k' = (s.upd y r' k').upd x r k := by
  unfold FS.upd
  cases x with
  | none => cases y <;> simp [Nat.add_right_comm]
  | some d =>
    cases y with
    | none => simp [Nat.add_right_comm]
    | some e =>
      have hne : d ≠ e := fun he => h d rfl (he ▸ rfl)
      simp only [Nat.add_right_comm]
      congr 1
      split <;> split <;> try rfl
      funext z
      by_cases h1 : z = d
      · subst h1; rw [if_neg hne]; simp
      · simp [h1]

/- what an operation of such a region yields -/
structure Res where
  c : Prop
  p : AV → Prop
  k : Nat
  d : Bool

def argsF (ev : Operand → AV) : List Operand → List AV
  | [] => []
  | x :: l => (ev x).er :: argsF ev l

theorem argsF_eq (st : St) : ∀ l, argsF st.ev l = argsE st l
  | [] => rfl
  | x :: l => by simp only [argsF, argsE, argsF_eq st l]

def dres (tb : Tb) (o : Op) (ev : Operand → AV) (m : Nat → Option (List AV)) : Option Res :=
  match dopD tb.T o ev m with
  | some (c, x) => some ⟨c, fun y => y = x, 0, false⟩
  | none => none

def ck (tb : Tb) (f : FuncId) : Option Con := match dk f tb.D with | some d => some d.con | none => gk f tb.G

theorem ck_ok {E : En} {tb : Tb} (h : TbOk E tb) {f : FuncId} {C : Con} (hf : ck tb f = some C) : (Callable E.P f ∧ Valid E.P f C) ∧ ∀ w, GrownL E.w0 w (if E.draws then some E.g else none) E.L → C.inv w := by
  unfold ck at hf
  split at hf
  · rename_i d hd; obtain rfl := Option.some.inj hf; exact h.det hd
  · exact h.get hf

def fres (tb : Tb) (o : Op) (ev : Operand → AV) (m : Nat → Option (List AV)) : Option Res :=
  match o with
  | .call c => match c.callee with
    | .value fo => match fnOf (ev fo) with
      | some f => match ck tb f with
        | some C => some ⟨C.pre (argsF ev c.args.toList), fun y => ∃ r, C.post (argsF ev c.args.toList) r ∧ y = r.er, C.cost, C.draws⟩
        | none => none
      | none => none
    | _ => dres tb o ev m
  | _ => dres tb o ev m

def gres (tb : Tb) (ops : Array Oper) (o : Oper) (s : FS) : Option Res :=
  match o.guard with
  | none => fres tb o.op s.ev s.m
  | some (j, want) => match (ops[j]?).bind (·.dst) with
    | some d => match s.σ d with
      | .v (.bool b) => if d < s.nt then (if b = want then fres tb o.op s.ev s.m else some ⟨True, fun y => y = .tup [], 0, false⟩) else none
      | .tup [] => some ⟨True, fun y => y = .tup [], 0, false⟩
      | _ => none
    | none => none

def fsem (tb : Tb) (ops : Array Oper) (o : Oper) (s : FS) (K : FS → Prop) : Prop :=
  ∃ q, gres tb ops o s = some q ∧ q.c ∧ (∃ x, q.p x) ∧ (q.d = true → tb.draws = true ∧ s.rn + q.k ≤ lim) ∧ ∀ x, q.p x → K (s.upd o.dst x q.k)

def isTop : Op → Bool
  | .store _ _ _ => true
  | .call c => match c.callee with | .builtin .append => true | _ => false
  | _ => false
def isT (o : Oper) : Bool := o.guard.isNone && isTop o.op
def isFA (o : Oper) : Bool := o.guard.isNone && (match o.op with | .fieldAddr _ _ _ => true | _ => false)
def isCall (o : Oper) : Bool := match o.op with | .call c => (match c.callee with | .value _ => true | _ => false) | _ => false

def tsem (tb : Tb) (o : Oper) (s : FS) (K : FS → Prop) : Prop := ∃ st : St, st.fs = s ∧ stp tb o st fun st' => K st'.fs

def osem (tb : Tb) (ops : Array Oper) (o : Oper) (s : FS) (K : FS → Prop) : Prop :=
  if isT o then tsem tb o s K else fsem tb ops o s K

/- evaluation -/
def dstp (tb : Tb) (o : Oper) (st : St) (K : St → Prop) : Prop :=
  match o.op with
  | .call c => match c.callee with
    | .value fo => match fnOf (st.ev fo) with
      | some f => match dk f tb.D with
        | some d => match d.g (argsE st c.args.toList) with
          | some (c, r) => c ∧ K (st.put o.dst r.er)
          | none => False
        | none => match gk f tb.G with
          | some C => (C.draws = true → tb.draws = true ∧ st.rn + C.cost ≤ lim) ∧ C.pre (argsE st c.args.toList) ∧ (∃ r, C.post (argsE st c.args.toList) r) ∧ ∀ r, C.post (argsE st c.args.toList) r → K (st.called o.dst { C with own := false } r)
          | none => False
      | none => False
    | _ => match dopD tb.T o.op st.ev (fun k => lkm k st.m) with
      | some (c, r) => c ∧ K (st.put o.dst r)
      | none => False
  | _ => match dopD tb.T o.op st.ev (fun k => lkm k st.m) with
    | some (c, r) => c ∧ K (st.put o.dst r)
    | none => False

def dstpG (tb : Tb) (ops : List Oper) (o : Oper) (st : St) (K : St → Prop) : Prop :=
  match o.guard with
  | none => match isTop o.op with
    | true => stp tb o st K
    | false => dstp tb o st K
  | some (j, want) => match ops[j]? with
    | some g => match g.dst with
      | some d => match lk d st.σ with
        | .v (.bool b) => d < st.nt ∧ gs b (match want with | true => dstp tb o (st.know d true) K | false => K ((st.know d true).put o.dst (.tup [])))
            (match want with | true => K ((st.know d false).put o.dst (.tup [])) | false => dstp tb o (st.know d false) K)
        | .tup [] => K (st.put o.dst (.tup []))
        | _ => False
      | none => False
    | none => False

theorem stp_mono {tb : Tb} {o : Oper} {st : St} {K K' : St → Prop} (hk : ∀ st', K st' → K' st') (h : stp tb o st K) : stp tb o st K' := by
  unfold stp at *
  repeat' split at h
  all_goals (try exact h.elim)
  all_goals (try (simp only [*, -h]))
  all_goals first
    | exact hk _ h
    | exact ⟨h.1, hk _ h.2⟩
    | exact ⟨h.1, h.2.1, fun r hr => hk _ (h.2.2 r hr)⟩

theorem dstp_fres {tb : Tb} {o : Oper} {st : St} {K : St → Prop} {K' : FS → Prop} (hk : ∀ st', K st' → K' st'.fs) (h : dstp tb o st K) :
    ∃ q, fres tb o.op st.fs.ev st.fs.m = some q ∧ q.c ∧ (∃ x, q.p x) ∧ (q.d = true → tb.draws = true ∧ st.fs.rn + q.k ≤ lim) ∧ ∀ x, q.p x → K' (st.fs.upd o.dst x q.k) := by
  rw [fs_ev]
  have hd : (match dopD tb.T o.op st.ev (fun k => lkm k st.m) with | some (c, r) => c ∧ K (st.put o.dst r) | none => False) → ∃ q, dres tb o.op st.ev st.fs.m = some q ∧ q.c ∧ (∃ x, q.p x) ∧ (q.d = true → tb.draws = true ∧ st.fs.rn + q.k ≤ lim) ∧ ∀ x, q.p x → K' (st.fs.upd o.dst x q.k) := by
    intro h
    unfold dres
    split at h
    · rename_i c r hd
      have hd' : dopD tb.T o.op st.ev st.fs.m = some (c, r) := hd
      rw [hd']
      exact ⟨_, rfl, h.1, ⟨r, rfl⟩, fun h => (by cases h), fun x hx => by cases hx; rw [← fs_put0]; exact hk _ h.2⟩
    · exact h.elim
  unfold dstp at h
  unfold fres
  split at h
  · rename_i c ho
    rw [ho] at hd ⊢
    split at h
    · rename_i fo hc
      split at h
      · rename_i f hf
        unfold ck
        split at h
        · rename_i d hd
          split at h
          · rename_i c' r hg
            rw [argsF_eq]
            exact ⟨_, rfl, ⟨c', r, hg, h.1⟩, ⟨_, r, ⟨c', hg⟩, rfl⟩, fun h => (by cases h), fun x ⟨r', ⟨c2, hr⟩, hx⟩ => by
              rw [hg] at hr
              obtain ⟨_, rfl⟩ := Prod.mk.inj (Option.some.inj hr)
              subst hx
              show K' (st.fs.upd o.dst r.er 0)
              rw [← fs_put0]; exact hk _ h.2⟩
          · exact h.elim
        split at h
        · rename_i C hC
          obtain ⟨h1, h2, ⟨r, h3⟩, h4⟩ := h
          rw [argsF_eq]
          have h4' : ∀ r, C.post (argsE st c.args.toList) r → K { (st.put o.dst r.er) with rn := st.rn + C.cost } := fun r hr => by
            have := h4 r hr
            unfold St.called at this
            simpa using this
          exact ⟨_, rfl, h2, ⟨_, r, h3, rfl⟩, h1, fun x ⟨r, hr, hx⟩ => by subst hx; rw [← fs_put]; exact hk _ (h4' r hr)⟩
        · exact h.elim
      · exact h.elim
    · rename_i hc
      rw [ho] at h
      first
        | exact hd h
        | (split
           · rename_i fo hfo; exact absurd hfo (hc fo)
           · exact hd h)
  · rename_i hc
    first
      | exact hd h
      | (split
         · rename_i c ho; exact absurd ho (hc c)
         · exact hd h)

theorem dstpG_osem {tb : Tb} {ops : List Oper} {o : Oper} {st : St} {K : St → Prop} {K' : FS → Prop} (hk : ∀ st', K st' → K' st'.fs) (h : dstpG tb ops o st K) : osem tb ops.toArray o st.fs K' := by
  unfold dstpG at h
  unfold osem isT
  split at h
  · rename_i hg
    rw [hg]
    cases ht : isTop o.op with
    | true =>
      rw [ht] at h
      simp only [Option.isNone_none, Bool.and_self, if_true]
      exact ⟨st, rfl, stp_mono hk h⟩
    | false =>
      rw [ht] at h
      simp only [Option.isNone_none, Bool.and_false, Bool.false_eq_true, if_false]
      unfold fsem gres
      rw [hg]
      exact dstp_fres hk h
  · rename_i j want hg
    rw [hg]
    simp only [Option.isNone_some, Bool.false_and, Bool.false_eq_true, if_false]
    unfold fsem gres
    rw [hg]
    split at h
    · rename_i g hgj
      split at h
      · rename_i d hd
        have e : (ops.toArray[j]?).bind (·.dst) = some d := by simp [hgj, hd]
        simp only [e]
        have hfs : ∀ v, lk d st.σ = .v (.bool v) → (st.know d v).fs = st.fs := fun v hv => by
          have e : (fun x => lk x (st.know d v).σ) = (fun x => lk x st.σ) := funext fun x => lk_know hv x
          show FS.mk st.nt _ _ st.rn = FS.mk st.nt _ _ st.rn
          rw [e]; rfl
        have hp : ∀ st1 : St, st1.fs = st.fs → K (st1.put o.dst (.tup [])) → ∃ q, (some ⟨True, fun y => y = .tup [], 0, false⟩ : Option Res) = some q ∧ q.c ∧ (∃ x, q.p x) ∧ (q.d = true → tb.draws = true ∧ st.fs.rn + q.k ≤ lim) ∧ ∀ x, q.p x → K' (st.fs.upd o.dst x q.k) := fun st1 hf h => ⟨_, rfl, trivial, ⟨_, rfl⟩, fun h => (by cases h), fun x hx => by cases hx; rw [← hf, ← fs_put0]; exact hk _ h⟩
        split at h
        · rename_i b hlk
          have hlk' : st.fs.σ d = .v (.bool b) := hlk
          obtain ⟨hlt, h0⟩ := h
          have h1 : b = want → dstp tb o (st.know d want) K := fun e => by subst e; cases b <;> simpa [gs] using h0
          have h2 : b = !want → K ((st.know d (!want)).put o.dst (.tup [])) := fun e => by subst e; cases want <;> simpa [gs] using h0
          have hlt' : d < st.fs.nt := hlt
          simp only [hlk', if_pos hlt']
          by_cases hb : b = want
          · rw [if_pos hb]
            have := dstp_fres hk (h1 hb)
            rw [hfs want (by rw [hlk, hb])] at this
            exact this
          · rw [if_neg hb]
            have hb' : b = !want := by cases b <;> cases want <;> simp_all
            exact hp _ (hfs _ (by rw [hlk, hb'])) (h2 hb')
        · rename_i hlk
          have hlk' : st.fs.σ d = .tup [] := hlk
          simp only [hlk']
          exact hp st rfl h
        · exact h.elim
      · exact h.elim
    · exact h.elim

end Go.Eng
end
section
namespace Go.Eng
open Go Go.RowKit

theorem partsE_congr {ev ev' : Operand → AV} : ∀ l : List (Nat × Operand), (∀ p ∈ l, ev p.2 = ev' p.2) → dop.partsE ev l = dop.partsE ev' l
  | [], _ => rfl
  | (k, x) :: l, h => by
    have h1 := h (k, x) (by simp)
    simp only at h1
    simp only [dop.partsE, h1, partsE_congr l (fun p hp => h p (by simp [hp]))]

theorem argsF_congr {ev ev' : Operand → AV} : ∀ l : List Operand, (∀ x ∈ l, ev x = ev' x) → argsF ev l = argsF ev' l
  | [], _ => rfl
  | x :: l, h => by simp only [argsF, h x (by simp), argsF_congr l (fun p hp => h p (by simp [hp]))]

theorem dop_congr (T : List (TypeId × TyI)) (o : Op) {ev ev' : Operand → AV} (m : Nat → Option (List AV)) (h : ∀ x ∈ o.operands, ev x = ev' x) : dop T o ev m = dop T o ev' m := by
  cases o
  case call c =>
    obtain ⟨callee, args, ats⟩ := c
    simp only [dop]
    cases callee <;> try rfl
    rename_i b
    cases b <;> try rfl
    have hh : ∀ x ∈ args.toList, ev x = ev' x := fun x hx => h x (by simp [Op.operands, Call.operands]; simpa using hx)
    generalize args.toList = l at hh ⊢
    match l, hh with
    | [], _ => rfl
    | [x], hh =>
      have e := hh x (by simp)
      generalize ats.toList = l2
      match l2 with
      | [] => rfl
      | [t] => simp only [e]
      | _ :: _ :: _ => rfl
    | _ :: _ :: _, _ => rfl
  case slice t x lo hi mx =>
    have hx := h x (by simp [Op.operands])
    cases mx <;> cases lo <;> cases hi <;> simp only [dop, hx, bnd]
    · rename_i y; have hy := h y (by simp [Op.operands]); simp only [hy]
    · rename_i y; have hy := h y (by simp [Op.operands]); simp only [hy]
    · rename_i y z; have hy := h y (by simp [Op.operands]); have hz := h z (by simp [Op.operands]); simp only [hy, hz]
  case build t ps =>
    simp only [dop, partsE_congr ps.toList fun p hp => h p.2 (by simp [Op.operands]; exact ⟨p.1, by simpa using hp⟩)]
  case binOp op t x y t' =>
    have hx := h x (by simp [Op.operands])
    have hy := h y (by simp [Op.operands])
    cases y with
    | const v => cases v <;> simp only [dop, hx, hy]
    | _ => simp only [dop, hx, hy]
  case unOp op t x => have hx := h x (by simp [Op.operands]); cases op <;> simp only [dop, hx]
  all_goals first
    | rfl
    | (rename_i x; have hx := h x (by simp [Op.operands]); simp only [dop, hx]; done)
    | (rename_i x y; have hx := h x (by simp [Op.operands]); simp only [dop, hx]; done)
    | (rename_i x y; have hy := h y (by simp [Op.operands]); simp only [dop, hy]; done)
    | (rename_i x y z; have hx := h x (by simp [Op.operands]); have hy := h y (by simp [Op.operands]); simp only [dop, hx, hy]; done)
    | (rename_i x y z; have hx := h y (by simp [Op.operands]); have hy := h z (by simp [Op.operands]); simp only [dop, hx, hy]; done)
    | (rename_i x y z; have hx := h x (by simp [Op.operands]); have hy := h y (by simp [Op.operands]); have hz := h z (by simp [Op.operands]); simp only [dop, hx, hy, hz]; done)

theorem fres_congr (tb : Tb) (o : Op) {ev ev' : Operand → AV} (m : Nat → Option (List AV)) (h : ∀ x ∈ o.operands, ev x = ev' x) : fres tb o ev m = fres tb o ev' m := by
  have hd : dres tb o ev m = dres tb o ev' m := by
    have e : dopD tb.T o ev m = dopD tb.T o ev' m := by
      cases o
      case buildSlice t n parts => simp only [dopD, bsl, partsE_congr parts.toList fun p hp => h p.2 (by simp [Op.operands]; exact ⟨p.1, by simpa using hp⟩)]
      all_goals exact dop_congr tb.T _ m h
    unfold dres
    rw [e]
  unfold fres
  split
  · rename_i c
    split
    · rename_i fo hc
      rw [h fo (by simp [Op.operands, Call.operands, hc]), argsF_congr c.args.toList fun x hx => h x (by simp [Op.operands, Call.operands]; exact .inr (by simpa using hx))]
    · exact hd
  · exact hd

theorem upd_ev {s : FS} {dst : Option Nat} {r : AV} {k : Nat} {x : Operand} (h : ∀ d, dst = some d → x ≠ .tmp d) : (s.upd dst r k).ev x = s.ev x := by
  cases dst with
  | none => cases x <;> rfl
  | some d =>
    cases x with
    | tmp t =>
      have hne : t ≠ d := fun e => h d rfl (e ▸ rfl)
      simp only [FS.ev, FS.upd]
      split
      · exact if_neg hne
      · rfl
    | _ => rfl

theorem looksAt_op {ops : Array Oper} {o : Oper} {d : Nat} (h : d ∉ o.looksAt ops) : ∀ x ∈ o.op.operands, x ≠ .tmp d := fun x hx e => h (by
  subst e
  exact List.mem_append_left _ (List.mem_filterMap.2 ⟨.tmp d, by simpa using hx, rfl⟩))

theorem gres_upd {tb : Tb} {ops : Array Oper} {o : Oper} {s : FS} {dst : Option Nat} {r : AV} {k : Nat} (h : ∀ d, dst = some d → d ∉ o.looksAt ops) : gres tb ops o (s.upd dst r k) = gres tb ops o s := by
  have hf : fres tb o.op (s.upd dst r k).ev (s.upd dst r k).m = fres tb o.op s.ev s.m := fres_congr tb o.op s.m fun x hx => upd_ev fun d hd => looksAt_op (h d hd) x hx
  unfold gres
  rw [hf]
  cases hg : o.guard with
  | none => rfl
  | some jw =>
    obtain ⟨j, want⟩ := jw
    simp only
    cases hb : (ops[j]?).bind (·.dst) with
    | none => rfl
    | some d =>
      have : (s.upd dst r k).σ d = s.σ d := by
        have := upd_ev (s := s) (dst := dst) (r := r) (k := k) (x := .tmp d) fun e he hh => by
          injection hh with hh; subst hh
          exact h _ he (by simp [Oper.looksAt, hg, hb])
        exact this
      simp only [this]
      rfl

theorem gres_call {tb : Tb} {ops : Array Oper} {o : Oper} {s : FS} {q : Res} (h : gres tb ops o s = some q) (hc : isCall o = false) : q.k = 0 ∧ q.d = false := by
  have hd : ∀ q, dres tb o.op s.ev s.m = some q → q.k = 0 ∧ q.d = false := fun q h => by
    unfold dres at h
    split at h
    · obtain rfl := Option.some.inj h; exact ⟨rfl, rfl⟩
    · cases h
  have hf : ∀ q, fres tb o.op s.ev s.m = some q → q.k = 0 ∧ q.d = false := fun q h => by
    unfold fres at h
    split at h
    · rename_i c ho
      split at h
      · rename_i fo hfo
        simp [isCall, ho, hfo] at hc
      · exact hd q h
    · exact hd q h
  unfold gres at h
  split at h
  · exact hf q h
  · split at h
    · split at h
      · split at h
        · split at h
          · exact hf q h
          · obtain rfl := Option.some.inj h; exact ⟨rfl, rfl⟩
        · cases h
      · obtain rfl := Option.some.inj h; exact ⟨rfl, rfl⟩
      · cases h
    · cases h

/-- two operations that read and yield change places -/
theorem fswap {tb : Tb} {ops : Array Oper} {x y : Oper} {s : FS} {K : FS → Prop} (hap : Oper.apart ops x y = true) (hc : (isCall x && isCall y) = false)
    (h : fsem tb ops x s fun s' => fsem tb ops y s' K) : fsem tb ops y s fun s' => fsem tb ops x s' K := by
  obtain ⟨a1, a2, a3⟩ := Oper.apart_spec hap
  obtain ⟨q, h1, h2, ⟨r0, h3⟩, h4, h5⟩ := h
  obtain ⟨q', g1, g2, g3, g4, _⟩ := h5 r0 h3
  rw [gres_upd a1] at g1
  refine ⟨q', g1, g2, g3, fun hd => ⟨(g4 hd).1, ?_⟩, fun x' hx' => ⟨q, by rw [gres_upd a3]; exact h1, h2, ⟨r0, h3⟩, fun hd => ⟨(h4 hd).1, ?_⟩, fun x'' hx'' => ?_⟩⟩
  · have := (g4 hd).2
    have e : (s.upd x.dst r0 q.k).rn = s.rn + q.k := rfl
    omega
  · have := (h4 hd).2
    show s.rn + q'.k + q.k ≤ lim
    cases hx : isCall x with
    | true =>
      rw [hx] at hc
      have := (gres_call g1 (by simpa using hc)).1
      omega
    | false =>
      have := (gres_call h1 hx).2
      rw [this] at hd; cases hd
  · obtain ⟨q2, k1, _, _, _, k5⟩ := h5 x'' hx''
    rw [gres_upd a1, g1] at k1
    obtain rfl := Option.some.inj k1
    rw [← upd_comm _ _ _ _ _ _ _ a2]
    exact k5 x' hx'

end Go.Eng
end
section
namespace Go.Eng
open Go Go.RowKit

theorem put_ev {st : St} {dst : Option Nat} {r : AV} {x : Operand} (h : ∀ d, dst = some d → x ≠ .tmp d) : (st.put dst r).ev x = st.ev x := by
  rw [← fs_ev, ← fs_ev, fs_put0]; exact upd_ev h

theorem put_nt (st : St) (dst : Option Nat) (r : AV) : (st.put dst r).nt = st.nt := by
  unfold St.put; split <;> try split
  all_goals rfl

/-- behind a write the rest stands, but for owners -/
structure TT (x : Oper) (st n : St) : Prop where
  nt : n.nt = st.nt
  σ : ∀ z, x.dst ≠ some z → lk z n.σ = lk z st.σ ∨ ∃ a b, lk z n.σ = ((lk z st.σ).strip a).strip b

theorem fs_upd_of {a b : St} {dst : Option Nat} (h1 : a.nt = b.nt) (h2 : a.rn = b.rn) (h3 : ∀ k, lkm k a.m = lkm k b.m) (h4 : ∀ z, dst ≠ some z → lk z a.σ = lk z b.σ) (h5 : ∀ d, dst = some d → ¬ d < b.nt → lk d a.σ = lk d b.σ) (r : AV) : a.fs.upd dst r 0 = b.fs.upd dst r 0 := by
  have e3 : a.fs.m = b.fs.m := funext h3
  cases dst with
  | none =>
    have e4 : a.fs.σ = b.fs.σ := funext fun z => h4 z (by simp)
    simp only [FS.upd, e4, e3]
    show FS.mk a.nt _ _ _ = FS.mk b.nt _ _ _
    rw [h1, show a.fs.rn = b.fs.rn from h2]
  | some d =>
    by_cases hd : d < b.nt
    · have hd' : d < a.nt := by omega
      simp only [FS.upd, e3]
      rw [if_pos (show d < a.fs.nt from hd'), if_pos (show d < b.fs.nt from hd)]
      rw [show a.fs.nt = b.fs.nt from h1, show a.fs.rn = b.fs.rn from h2]
      congr 1
      funext z
      by_cases hz : z = d
      · simp [hz]
      · simp only [if_neg hz]; exact h4 z (fun e => hz (Option.some.inj e).symm)
    · have hd' : ¬ d < a.nt := by omega
      simp only [FS.upd, e3]
      rw [if_neg (show ¬ d < a.fs.nt from hd'), if_neg (show ¬ d < b.fs.nt from hd)]
      rw [show a.fs.nt = b.fs.nt from h1, show a.fs.rn = b.fs.rn from h2]
      congr 1
      funext z
      by_cases hz : z = d
      · subst hz; exact h5 _ rfl hd
      · exact h4 z (fun e => hz (Option.some.inj e).symm)

theorem lk_put (z : Nat) (st : St) (dst : Option Nat) (r : AV) : lk z (st.put dst r).σ = match dst with | some d => if d < st.nt ∧ z = d then r else lk z st.σ | none => lk z st.σ := by
  cases dst with
  | none => rfl
  | some d =>
    simp only [St.put]
    by_cases h : d < st.nt
    · simp only [h, if_true, lk, true_and]
    · simp only [h, if_false, false_and]

theorem stp_put {tb : Tb} {ops : Array Oper} {x : Oper} {st : St} {K : St → Prop} {dst : Option Nat} {r : AV} (ht : isTop x.op = true) (hl : ∀ d, dst = some d → d ∉ x.looksAt ops) (hd : ∀ d, dst = some d → x.dst ≠ some d)
    (h : stp tb x st K) : stp tb x (st.put dst r) fun n => ∃ n0, K n0 ∧ TT x st n0 ∧ TT x (st.put dst r) n ∧ ∀ r', n.fs.upd dst r' 0 = n0.fs.upd dst r' 0 := by
  have hev : ∀ z ∈ x.op.operands, (st.put dst r).ev z = st.ev z := fun z hz => put_ev fun d e => looksAt_op (hl d e) z hz
  unfold stp at h ⊢
  match ho : x.op, ht with
  | .store t a b, _ =>
    rw [ho] at h hev
    simp only at h ⊢
    rw [hev a (by simp [Op.operands]), hev b (by simp [Op.operands]), put_m]
    split at h
    · rename_i d off i xs hxd hx hi hy
      split at h
      · rename_i ls hls
        try simp only [hxd, hls]
        refine ⟨h.1, _, h.2, ⟨rfl, fun z _ => .inl rfl⟩, ⟨rfl, fun z _ => .inl rfl⟩, fun r' => fs_upd_of (a := { (st.put dst r) with m := repm d (setL ls off xs) st.m }) (b := { st with m := repm d (setL ls off xs) st.m }) (put_nt _ _ _) (put_rn _ _ _) (fun k => rfl) (fun z hz => ?_) (fun d' e hn => ?_) r'⟩
        · show lk z (st.put dst r).σ = lk z st.σ
          rw [lk_put]
          cases dst with
          | none => rfl
          | some e => simp only; rw [if_neg (fun hh => hz (by rw [hh.2]))]
        · show lk d' (st.put dst r).σ = lk d' st.σ
          rw [lk_put, e]; simp only; rw [if_neg (fun hh => hn hh.1)]
      · exact h.elim
    · exact h.elim
  | .call c, ht =>
    obtain ⟨callee, args, ats⟩ := c
    rw [ho] at h hev
    match callee, ht with
    | .builtin .append, _ =>
      simp only at h ⊢
      have hh : ∀ z ∈ args.toList, (st.put dst r).ev z = st.ev z := fun z hz => hev z (by simp [Op.operands, Call.operands]; simpa using hz)
      generalize args.toList = l at h hh ⊢
      split at h
      · rename_i p q t t' ha
        simp only [hh p (by simp), hh q (by simp)]
        split at h
        · rename_i d e ie hxd he
          try simp only [hxd]
          split at h
          · rename_i s els ys hown hys
            try simp only [hown, hys]
            have tt : ∀ st : St, TT x st ((st.strip2 s d).put (some d) (.sl (some (d, 0, e)) (els ++ ys))) := fun st => ⟨by rw [put_nt, strip2_nt], fun z hz => by
              rw [lk_put]
              simp only
              rw [if_neg (fun hh => hz (by rw [hxd, hh.2])), strip2_σ, lk_strip, lk_strip]
              exact .inr ⟨s, d, rfl⟩⟩
            refine ⟨h.1, _, h.2, tt st, tt _, fun r' => fs_upd_of ?_ ?_ (fun k => ?_) (fun z hz => ?_) (fun d' e' hn => ?_) r'⟩
            · rw [put_nt, put_nt, strip2_nt, strip2_nt, put_nt]
            · rw [put_rn, put_rn, strip2_rn, strip2_rn, put_rn]
            · rw [put_m, put_m, strip2_m, strip2_m, put_m]
            · rw [lk_put, lk_put]
              simp only [strip2_σ, strip2_nt, put_nt]
              split
              · rfl
              · rw [lk_strip, lk_strip, lk_strip, lk_strip, lk_put]
                cases dst with
                | none => rfl
                | some e => simp only; rw [if_neg (fun hh => hz (by rw [hh.2]))]
            · rw [put_nt, strip2_nt] at hn
              rw [lk_put, lk_put]
              simp only [strip2_σ, strip2_nt, put_nt]
              split
              · rfl
              · rw [lk_strip, lk_strip, lk_strip, lk_strip, lk_put, e']
                simp only; rw [if_neg (fun hh => hn hh.1)]
          · exact h.elim
        · exact h.elim
      · exact h.elim

theorem gres_fa {tb : Tb} {ops : Array Oper} {y : Oper} {s : FS} {q : Res} (hy : isFA y = true) (h : gres tb ops y s = some q) :
    ∃ t o k off fi r, y.op = .fieldAddr t o k ∧ fld tb.T t k = some (off, fi) ∧ q = ⟨0 < fi.size, fun z => z = r, 0, false⟩ ∧ ((∃ d n, s.ev o = .loc d n ∧ r = .loc d (n + off)) ∨ ∃ ls, s.ev o = .el ls ∧ r = .el (ls.drop off)) := by
  simp only [isFA, Bool.and_eq_true, Option.isNone_iff_eq_none] at hy
  obtain ⟨hg, ho⟩ := hy
  match hop : y.op, ho with
  | .fieldAddr t o k, _ =>
    unfold gres at h
    rw [hg, hop] at h
    simp only [fres, dres, dopD, dop] at h
    split at h
    · rename_i c x hx
      obtain rfl := Option.some.inj h
      split at hx
      · rename_i d n off fi he hf
        obtain ⟨rfl, rfl⟩ := Prod.mk.inj (Option.some.inj hx)
        exact ⟨t, o, k, off, fi, _, rfl, hf, rfl, .inl ⟨d, n, he, rfl⟩⟩
      · rename_i ls off fi he hf
        obtain ⟨rfl, rfl⟩ := Prod.mk.inj (Option.some.inj hx)
        exact ⟨t, o, k, off, fi, _, rfl, hf, rfl, .inr ⟨ls, he, rfl⟩⟩
      · cases hx
    · cases h

theorem gres_fa' {tb : Tb} {ops : Array Oper} {y : Oper} {s : FS} {t : TypeId} {o : Operand} {k off : Nat} {fi : TyI} {r : AV} (hy : isFA y = true) (hop : y.op = .fieldAddr t o k) (hf : fld tb.T t k = some (off, fi))
    (h : (∃ d n, s.ev o = .loc d n ∧ r = .loc d (n + off)) ∨ ∃ ls, s.ev o = .el ls ∧ r = .el (ls.drop off)) : gres tb ops y s = some ⟨0 < fi.size, fun z => z = r, 0, false⟩ := by
  simp only [isFA, Bool.and_eq_true, Option.isNone_iff_eq_none] at hy
  unfold gres
  rw [hy.1, hop]
  simp only [fres, dres, dopD, dop]
  rcases h with ⟨d, n, h1, rfl⟩ | ⟨ls, h1, rfl⟩
  · rw [h1, hf]
  · rw [h1, hf]

theorem strip_loc {x : AV} {d k n : Nat} : x.strip d = .loc k n ↔ x = .loc k n := by cases x <;> simp [AV.strip]
theorem strip_el {x : AV} {d : Nat} {ls : List DV} : x.strip d = .el ls ↔ x = .el ls := by cases x <;> simp [AV.strip]

theorem TT.ev {x : Oper} {st n : St} (h : TT x st n) {o : Operand} (ho : ∀ d, x.dst = some d → o ≠ .tmp d) : n.ev o = st.ev o ∨ ∃ a b, n.ev o = ((st.ev o).strip a).strip b := by
  cases o with
  | tmp t => exact h.σ t fun e => ho t e rfl
  | const v => exact .inl rfl
  | global g => exact .inl rfl
  | func f => exact .inl rfl

theorem TT.loc {x : Oper} {st n : St} (h : TT x st n) {o : Operand} (ho : ∀ d, x.dst = some d → o ≠ .tmp d) {k m : Nat} : n.ev o = .loc k m ↔ st.ev o = .loc k m := by
  rcases h.ev ho with e | ⟨a, b, e⟩
  · rw [e]
  · rw [e, strip_loc, strip_loc]
theorem TT.el {x : Oper} {st n : St} (h : TT x st n) {o : Operand} (ho : ∀ d, x.dst = some d → o ≠ .tmp d) {ls : List DV} : n.ev o = .el ls ↔ st.ev o = .el ls := by
  rcases h.ev ho with e | ⟨a, b, e⟩
  · rw [e]
  · rw [e, strip_el, strip_el]

theorem gres_TT {tb : Tb} {ops : Array Oper} {x y : Oper} {st n : St} (hy : isFA y = true) (h : TT x st n) (hl : ∀ d, x.dst = some d → d ∉ y.looksAt ops) {q : Res} : gres tb ops y n.fs = some q ↔ gres tb ops y st.fs = some q := by
  constructor
  · intro hq
    obtain ⟨t, o, k, off, fi, r, h1, h2, rfl, h4⟩ := gres_fa hy hq
    have ho : ∀ d, x.dst = some d → o ≠ .tmp d := fun d e => looksAt_op (hl d e) o (by simp [h1, Op.operands])
    refine gres_fa' hy h1 h2 ?_
    rw [fs_ev] at h4 ⊢
    simpa only [h.loc ho, h.el ho] using h4
  · intro hq
    obtain ⟨t, o, k, off, fi, r, h1, h2, rfl, h4⟩ := gres_fa hy hq
    have ho : ∀ d, x.dst = some d → o ≠ .tmp d := fun d e => looksAt_op (hl d e) o (by simp [h1, Op.operands])
    refine gres_fa' hy h1 h2 ?_
    rw [fs_ev] at h4 ⊢
    simpa only [h.loc ho, h.el ho] using h4

theorem TT.stable {x : Oper} {st n : St} (h : TT x st n) {d : Nat} (hd : x.dst ≠ some d) {r : AV} (hr : ∀ a b, (r.strip a).strip b = r) (e : lk d st.σ = r) : n.fs.σ d = r := by
  show lk d n.σ = r
  rcases h.σ d hd with e2 | ⟨a, b, e2⟩
  · rw [e2, e]
  · rw [e2, e, hr]

theorem upd_self {s : FS} {dst : Option Nat} {r : AV} (h : ∀ d, dst = some d → d < s.nt → s.σ d = r) : s.upd dst r 0 = s := by
  cases dst with
  | none => rfl
  | some d =>
    unfold FS.upd
    simp only
    by_cases hd : d < s.nt
    · rw [if_pos hd]
      have : (fun x => if x = d then r else s.σ x) = s.σ := by
        funext x; by_cases hx : x = d
        · subst hx; rw [if_pos rfl, h _ rfl hd]
        · rw [if_neg hx]
      rw [this]; rfl
    · rw [if_neg hd]; rfl

theorem stp_wit {tb : Tb} {x : Oper} {st : St} {K : St → Prop} (ht : isTop x.op = true) (h : stp tb x st K) : ∃ n, K n := by
  unfold stp at h
  match ho : x.op, ht with
  | .store t a b, _ =>
    rw [ho] at h
    simp only at h
    split at h
    · split at h
      · exact ⟨_, h.2⟩
      · exact h.elim
    · exact h.elim
  | .call c, ht =>
    obtain ⟨callee, args, ats⟩ := c
    rw [ho] at h
    match callee, ht with
    | .builtin .append, _ =>
      simp only at h
      split at h
      · split at h
        · split at h
          · exact ⟨_, h.2⟩
          · exact h.elim
        · exact h.elim
      · exact h.elim

/-- a write and a field's address change places -/
theorem tswap {tb : Tb} {ops : Array Oper} {x y : Oper} {s : FS} {K : FS → Prop} (ht : isTop x.op = true) (hy : isFA y = true) (hap : Oper.apart ops x y = true)
    (h : tsem tb x s fun s' => fsem tb ops y s' K) : fsem tb ops y s fun s' => tsem tb x s' K := by
  obtain ⟨a1, a2, a3⟩ := Oper.apart_spec hap
  have a2' : ∀ d, y.dst = some d → x.dst ≠ some d := fun d e e' => a2 d e' e
  obtain ⟨st, rfl, h⟩ := h
  -- some successor
  have hself := stp_put (dst := none) (r := .junk) (ops := ops) ht (fun d e => by cases e) (fun d e => by cases e) h
  obtain ⟨n, n0, hk, tt, _, _⟩ := stp_wit ht hself
  obtain ⟨q, q1, q2, q3, q4, _⟩ := hk
  have q1' := (gres_TT hy tt a1).1 q1
  obtain ⟨t, o, k, off, fi, r, h1, h2, rfl, h4⟩ := gres_fa hy q1'
  refine ⟨_, q1', q2, q3, fun h => (by cases h), fun z hz => ?_⟩
  cases hz
  refine ⟨st.put y.dst r, fs_put0 _ _ _, stp_mono (fun m hm => ?_) (stp_put ht a3 a2' h)⟩
  obtain ⟨m0, hk0, t1, t2, hu⟩ := hm
  obtain ⟨q', g1, g2, g3, g4, g5⟩ := hk0
  have g1' := (gres_TT hy t1 a1).1 g1
  rw [q1'] at g1'
  obtain rfl := Option.some.inj g1'
  have := g5 r rfl
  simp only at this
  rw [← hu r, upd_self] at this
  · exact this
  · intro d hd hlt
    have hst : ∀ a b, (r.strip a).strip b = r := by
      rcases h4 with ⟨k', n', _, rfl⟩ | ⟨ls, _, rfl⟩ <;> intro a b <;> rfl
    exact TT.stable t2 (a2' d hd) hst (by rw [lk_put, hd]; exact if_pos ⟨by rw [← put_nt st y.dst r, ← t2.nt]; exact hlt, rfl⟩)

/-- the same, the other way about -/
theorem tswap' {tb : Tb} {ops : Array Oper} {x y : Oper} {s : FS} {K : FS → Prop} (ht : isTop x.op = true) (hy : isFA y = true) (hap : Oper.apart ops x y = true)
    (h : fsem tb ops y s fun s' => tsem tb x s' K) : tsem tb x s fun s' => fsem tb ops y s' K := by
  obtain ⟨a1, a2, a3⟩ := Oper.apart_spec hap
  have a2' : ∀ d, y.dst = some d → x.dst ≠ some d := fun d e e' => a2 d e' e
  obtain ⟨q, q1, q2, q3, q4, h⟩ := h
  obtain ⟨t, o, k, off, fi, r, h1, h2, rfl, h4⟩ := gres_fa hy q1
  have hst : ∀ a b, (r.strip a).strip b = r := by
    rcases h4 with ⟨k', n', _, rfl⟩ | ⟨ls, _, rfl⟩ <;> intro a b <;> rfl
  obtain ⟨st, hfs, h⟩ := h r rfl
  simp only at hfs
  -- the state ahead
  let st0 : St := st.put y.dst (match y.dst with | some d => s.σ d | none => .junk)
  have hnt : st.nt = s.nt := congrArg FS.nt hfs
  have hrn : st.rn = s.rn := congrArg FS.rn hfs
  have hσ : ∀ z, lk z st.σ = (s.upd y.dst r 0).σ z := fun z => congrFun (congrArg FS.σ hfs) z
  have h0 : st0.fs = s := by
    show (st.put y.dst _).fs = s
    rw [fs_put0, hfs]
    cases hd : y.dst with
    | none => rfl
    | some d =>
      unfold FS.upd
      simp only
      by_cases hl : d < s.nt
      · simp only [if_pos hl]
        have : (fun x => if x = d then s.σ d else if x = d then r else s.σ x) = s.σ := by
          funext x; by_cases hx : x = d
          · subst hx; simp
          · simp [hx]
        rw [this]; rfl
      · simp only [if_neg hl]; rfl
  refine ⟨st0, h0, stp_mono (fun m hm => ?_) (stp_put (r := (match y.dst with | some d => s.σ d | none => .junk)) ht a3 a2' h)⟩
  obtain ⟨m0, hk0, t1, t2, hu⟩ := hm
  refine ⟨_, (gres_TT hy t2 a1).2 (by show gres tb ops y st0.fs = _; rw [h0]; exact q1), q2, q3, fun h => (by cases h), fun z hz => ?_⟩
  cases hz
  show K (m.fs.upd y.dst r 0)
  rw [hu r, upd_self]
  · exact hk0
  · intro d hd hlt
    refine TT.stable t1 (a2' d hd) hst ?_
    rw [hσ, hd]
    unfold FS.upd
    simp only
    rw [if_pos (by rw [← hnt, ← t1.nt]; exact hlt)]
    simp

end Go.Eng
end
section
namespace Go.Eng
open Go Go.RowKit

def comm (ops : Array Oper) (x y : Oper) : Bool :=
  Oper.apart ops x y && Oper.apart ops y x && ((!isT x && !isT y && !(isCall x && isCall y)) || (isT x && isFA y) || (isFA x && isT y))

theorem isFA_not {y : Oper} (h : isFA y = true) : isT y = false := by
  simp only [isFA, Bool.and_eq_true] at h
  unfold isT isTop
  match hop : y.op, h.2 with
  | .fieldAddr _ _ _, _ => simp

theorem isT_top {y : Oper} (h : isT y = true) : isTop y.op = true := by
  simp only [isT, Bool.and_eq_true] at h
  exact h.2

theorem oswap {tb : Tb} {ops : Array Oper} {x y : Oper} {s : FS} {K : FS → Prop} (hc : comm ops x y = true) (h : osem tb ops x s fun s' => osem tb ops y s' K) : osem tb ops y s fun s' => osem tb ops x s' K := by
  simp only [comm, Bool.and_eq_true, Bool.or_eq_true, Bool.not_eq_true'] at hc
  obtain ⟨⟨a1, a2⟩, hc⟩ := hc
  unfold osem at *
  rcases hc with (⟨⟨h1, h2⟩, h3⟩ | ⟨h1, h2⟩) | ⟨h1, h2⟩
  · simp only [h1, h2, Bool.false_eq_true, if_false] at h ⊢
    exact fswap a1 h3 h
  · simp only [h1, isFA_not h2, Bool.false_eq_true, if_false, if_true] at h ⊢
    exact tswap (isT_top h1) h2 a1 h
  · simp only [h2, isFA_not h1, Bool.false_eq_true, if_false, if_true] at h ⊢
    exact tswap' (isT_top h2) h1 a2 h

theorem osem_mono {tb : Tb} {ops : Array Oper} {x : Oper} {s : FS} {K K' : FS → Prop} (hk : ∀ s', K s' → K' s') (h : osem tb ops x s K) : osem tb ops x s K' := by
  unfold osem at *
  split
  · rename_i ht
    rw [if_pos ht] at h
    obtain ⟨st, h1, h2⟩ := h
    exact ⟨st, h1, stp_mono (fun _ h => hk _ h) h2⟩
  · rename_i ht
    rw [if_neg ht] at h
    obtain ⟨q, h1, h2, h3, h4, h5⟩ := h
    exact ⟨q, h1, h2, h3, h4, fun x hx => hk _ (h5 x hx)⟩

def fopsI (tb : Tb) (ops : Array Oper) : List Nat → FS → (FS → Prop) → Prop
  | [], s, K => K s
  | i :: l, s, K => match ops[i]? with
    | some o => osem tb ops o s fun s' => fopsI tb ops l s' K
    | none => fopsI tb ops l s K

theorem pull {tb : Tb} {ops : Array Oper} {i : Nat} {o : Oper} {K : FS → Prop} (ho : ops[i]? = some o) (l2 : List Nat) : ∀ (l1 : List Nat) (s : FS), (∀ j ∈ l1, ∀ x, ops[j]? = some x → comm ops x o = true) → fopsI tb ops (l1 ++ i :: l2) s K → osem tb ops o s fun s' => fopsI tb ops (l1 ++ l2) s' K
  | [], s, _, h => by
    simp only [List.nil_append, fopsI, ho] at h ⊢
    exact h
  | j :: l1, s, hc, h => by
    simp only [List.cons_append, fopsI] at h ⊢
    cases hj : ops[j]? with
    | none =>
      simp only [hj] at h ⊢
      exact pull ho l2 l1 s (fun k hk => hc k (by simp [hk])) h
    | some x =>
      simp only [hj] at h ⊢
      exact oswap (hc j (by simp) x hj) (osem_mono (fun s' h' => pull ho l2 l1 s' (fun k hk => hc k (by simp [hk])) h') h)

def RF (E : En) (s : FS) (a : Act) (w : World) : Prop := ∃ st : St, st.fs = s ∧ R E st a w

theorem Valid.plain {P : Program} {f : FuncId} {C : Con} (h : Valid P f C) : Valid P f { C with own := false } := by
  intro c args vs bv B n h1 h2 h3 h4 h5 h6 h7 h8
  refine (h c args vs bv B n h1 h2 h3 h4 h5 h6 h7 h8).mono fun e w' ⟨v, r, c', he, hp, O⟩ => ⟨v, r, c', he, hp, ?_⟩
  exact ⟨O.w, O.g, O.rd, O.fr, O.S, O.sx, O.s1, O.tok, O.toktok, O.rk⟩

theorem fres_ok {E : En} {tb : Tb} (hE : TbOk E tb) {o : Oper} {st : St} {a : Act} {w : World} (h : R E st a w) {q : Res} (hq : fres tb o.op st.ev (fun k => lkm k st.m) = some q) (hc : q.c) (hd : q.d = true → tb.draws = true ∧ st.rn + q.k ≤ lim)
    {next : Act → World → Prop} {Q : Exit → Act → World → Prop} (hn : ∀ x a' w', q.p x → R E { (st.put o.dst x) with rn := st.rn + q.k } a' w' → next a' w') : o.wp E.P a w next Q := by
  have hdop : dres tb o.op st.ev (fun k => lkm k st.m) = some q → o.wp E.P a w next Q := by
    intro hs
    unfold dres at hs
    split at hs
    · rename_i c r hd'
      obtain rfl := Option.some.inj hs
      refine (dopD_ok h hE.T hd' hc).wp fun a' w' h' => hn r a' w' rfl ?_
      have e : ({ (st.put o.dst r) with rn := st.rn + 0 } : St) = st.put o.dst r := by
        have := put_rn st o.dst r
        rw [Nat.add_zero, ← this]
      rw [e]; exact h'
    · cases hs
  unfold fres at hq
  split at hq
  · rename_i c ho
    split at hq
    · rename_i fo hfo
      split at hq
      · rename_i f hf
        split at hq
        · rename_i C hC
          obtain rfl := Option.some.inj hq
          simp only at hc hd hn
          obtain ⟨callee, args, ats⟩ := c
          simp only at hfo hc hd hn
          subst hfo
          rw [argsF_eq, argsE_eq] at hc hn
          obtain ⟨⟨g1, g2⟩, g3⟩ := ck_ok hE hC
          refine op_call h f fo args ats ho (fnOf_ok hf) g1 g2.plain g3 (fun e => by rw [hE.dr]; exact (hd e).1) hc (fun e => (hd e).2) fun r hr a' w' h' => hn r.er a' w' ⟨r, hr, rfl⟩ ?_
          unfold St.called at h'
          simpa using h'
        · cases hq
      · cases hq
    · exact hdop hq
  · exact hdop hq

theorem osem_ok {E : En} {tb : Tb} (hE : TbOk E tb) {ops : Array Oper} {i : Nat} {o : Oper} (ho : ops[i]? = some o) {s : FS} {a : Act} {w : World} (h : RF E s a w) {K : FS → Prop} (hs : osem tb ops o s K) {next : Act → World → Prop} {Q : Exit → Act → World → Prop} (hn : ∀ s' a' w', RF E s' a' w' → K s' → next a' w') :
    wpOp E.P ops Q i next a w := by
  obtain ⟨st, rfl, hr⟩ := h
  unfold wpOp
  simp only [ho]
  unfold osem at hs
  split at hs
  · rename_i ht
    obtain ⟨st', h1, h2⟩ := hs
    have hg : o.guard = none := by simp only [isT, Bool.and_eq_true, Option.isNone_iff_eq_none] at ht; exact ht.1
    rw [if_pos (by simp [Region.wanted, hg])]
    exact .inl (stp_ok hE (hr.eqv (eqv_of_fs h1.symm)) h2 fun st2 a' w' h' hk => hn _ a' w' ⟨st2, rfl, h'⟩ hk)
  · obtain ⟨q, h1, h2, h3, h4, h5⟩ := hs
    have key : fres tb o.op st.fs.ev st.fs.m = some q → o.wp E.P a w next Q := fun hq => by
      rw [fs_ev] at hq
      exact fres_ok hE hr hq h2 h4 fun x a' w' hx h' => hn _ a' w' ⟨_, rfl, h'⟩ (by rw [fs_put]; exact h5 x hx)
    have skip : q = ⟨True, fun y => y = .tup [], 0, false⟩ → next (a.put o.dst undef) w := fun hq => by
      subst hq
      exact hn _ _ _ ⟨_, rfl, hr.skipped o.dst⟩ (by rw [fs_put0]; exact h5 _ rfl)
    unfold gres at h1
    split at h1
    · rename_i hg
      rw [if_pos (by simp [Region.wanted, hg])]
      exact .inl (key h1)
    · rename_i j want hg
      split at h1
      · rename_i d hd
        have hy : ∀ v, a.tmps[d]? = some v → yielded ops a.tmps j = (match v with | .bool b => some b | _ => none) := fun v hv => by
          unfold yielded
          simp only [hd, Option.bind_some, hv]
          cases v <;> rfl
        split at h1
        · rename_i b hlk
          split at h1
          · rename_i hlt
            have hv : a.tmps[d]? = some (.bool b) := by
              obtain ⟨c, _, _, h3, h4, _⟩ := hr
              have := h3 d
              have hlk' : lk d st.σ = .v (.bool b) := hlk
              rw [hlk'] at this
              have hlt' : d < a.tmps.size := by rw [h4]; exact hlt
              rw [Array.getD_eq_getD_getElem?, Array.getElem?_eq_getElem hlt'] at this
              rw [Array.getElem?_eq_getElem hlt']
              simp only [Option.getD_some] at this
              generalize a.tmps[d] = u at this
              cases this; rfl
            have hyd := hy _ hv
            simp only at hyd
            split at h1
            · rename_i hb
              subst hb
              rw [if_pos (by simp [Region.wanted, hg, hyd])]
              exact .inl (key h1)
            · rename_i hb
              rw [if_neg (by simp [Region.wanted, hg, hyd, hb])]
              exact skip (Option.some.inj h1).symm
          · cases h1
        · rename_i hlk
          have hyd : yielded ops a.tmps j = none := by
            cases hv : a.tmps[d]? with
            | none =>
              unfold yielded
              simp only [hd, Option.bind_some, hv]
            | some v =>
              rw [hy v hv]
              obtain ⟨c, _, _, h3, h4, _⟩ := hr
              have := h3 d
              have hlk' : lk d st.σ = .tup [] := hlk
              rw [hlk', Array.getD_eq_getD_getElem?, hv] at this
              simp only [Option.getD_some] at this
              cases this with
              | tup ls cs hn hh => rfl
          rw [if_neg (by simp [Region.wanted, hg, hyd])]
          exact skip (Option.some.inj h1).symm
        · cases h1
      · cases h1

/- which operations reach which -/
def rch (ops : Array Oper) : Nat → Nat → Nat → Bool
  | 0, _, _ => false
  | n + 1, i, j => match ops[i]? with
    | some o => o.after.toList.any fun e => Region.binds .any e && (e.on == j || rch ops n e.on j)
    | none => false

def Closed (ops : Array Oper) (listed : Array Bool) : Prop :=
  ∀ i o, ops[i]? = some o → listed.getD i false = true → ∀ e ∈ o.after, Region.binds .any e = true → listed.getD e.on false = true

theorem rch_ok {ops : Array Oper} {listed : Array Bool} (hc : Closed ops listed) : ∀ (n i j : Nat), (∀ o, ops[i]? = some o → ∀ e ∈ o.after, Region.binds .any e = true → listed.getD e.on false = true) → rch ops n i j = true → listed.getD j false = true
  | 0, _, _, _, h => by simp [rch] at h
  | n + 1, i, j, hi, h => by
    simp only [rch] at h
    split at h
    · rename_i o ho
      rw [List.any_eq_true] at h
      obtain ⟨e, he, h⟩ := h
      simp only [Bool.and_eq_true, Bool.or_eq_true, beq_iff_eq] at h
      obtain ⟨hb, h⟩ := h
      have hl := hi o ho e (by simpa using he) hb
      rcases h with rfl | h
      · exact hl
      · exact rch_ok hc n e.on j (fun o' ho' => hc e.on o' ho' hl) h
    · cases h

/-- the check of such a region -/
def chk (n : Nat) (ops : Array Oper) : Bool :=
  (List.range ops.size).all fun i => match ops[i]? with
    | some o => (o.after.toList.all fun e => !Region.binds .any e || decide (e.on < i)) && ((List.range i).all fun j => match ops[j]? with
      | some x => comm ops x o || rch ops n i j
      | none => true)
    | none => true

theorem chk_after {n : Nat} {ops : Array Oper} (h : chk n ops = true) {i : Nat} {o : Oper} (ho : ops[i]? = some o) : ∀ e ∈ o.after, Region.binds .any e = true → e.on < i := by
  intro e he hb
  have hlt : i < ops.size := (Array.getElem?_eq_some_iff.1 ho).1
  have h1 := (List.all_eq_true.1 h) i (List.mem_range.2 hlt)
  rw [ho] at h1
  simp only [Bool.and_eq_true] at h1
  have h2 := (List.all_eq_true.1 h1.1) e (by simpa using he)
  simpa [hb] using h2

theorem chk_comm {n : Nat} {ops : Array Oper} (h : chk n ops = true) {i j : Nat} {o x : Oper} (ho : ops[i]? = some o) (hx : ops[j]? = some x) (hji : j < i) : comm ops x o = true ∨ rch ops n i j = true := by
  have hlt : i < ops.size := (Array.getElem?_eq_some_iff.1 ho).1
  have h1 := (List.all_eq_true.1 h) i (List.mem_range.2 hlt)
  rw [ho] at h1
  simp only [Bool.and_eq_true] at h1
  have h2 := (List.all_eq_true.1 h1.2) j (List.mem_range.2 hji)
  rw [hx] at h2
  simpa using h2

def rem (ops : Array Oper) (listed : Array Bool) : List Nat := (List.range ops.size).filter fun i => !listed.getD i false

theorem rem_split {ops : Array Oper} {listed : Array Bool} (hsz : listed.size = ops.size) {i : Nat} (hi : i < ops.size) (hl : listed.getD i false = false) :
    ∃ l1 l2, rem ops listed = l1 ++ i :: l2 ∧ rem ops (listed.setIfInBounds i true) = l1 ++ l2 ∧ ∀ j ∈ l1, j < i ∧ listed.getD j false = false := by
  unfold rem
  have e : List.range ops.size = List.range i ++ i :: (List.range (ops.size - i - 1)).map (fun k => i + 1 + k) := by
    have h1 : ops.size = i + (1 + (ops.size - i - 1)) := by omega
    conv => lhs; rw [h1]
    rw [List.range_add, List.range_add]
    simp [List.range_succ, Nat.add_assoc]
  rw [e, List.filter_append, List.filter_append, List.filter_cons, List.filter_cons]
  have h1 : (!listed.getD i false) = true := by rw [hl]; rfl
  have h2 : (!(listed.setIfInBounds i true).getD i false) = false := by
    simp [show i < listed.size by omega]
  rw [if_pos h1, h2]
  refine ⟨_, _, rfl, ?_, fun j hj => ?_⟩
  · simp only [Bool.false_eq_true, if_false]
    congr 1
    · apply List.filter_congr
      intro j hj
      rw [getD_set_ne false (by have := List.mem_range.1 hj; omega)]
    · apply List.filter_congr
      intro j hj
      obtain ⟨k, _, rfl⟩ := List.mem_map.1 hj
      rw [getD_set_ne false (by omega)]
  · have := List.mem_filter.1 hj
    exact ⟨List.mem_range.1 this.1, by simpa using this.2⟩

theorem any_ok {E : En} {tb : Tb} (hE : TbOk E tb) {ops : Array Oper} {n : Nat} (hck : chk n ops = true) {K : FS → Prop} {Q : Exit → Act → World → Prop} (hK : ∀ s a w, RF E s a w → K s → Q .normal a w) :
    ∀ (fuel : Nat) (listed : Array Bool) (s : FS) (a : Act) (w : World), listed.size = ops.size → Closed ops listed → (rem ops listed).length ≤ fuel → RF E s a w → fopsI tb ops (rem ops listed) s K → wpAny E.P .any ops Q fuel listed a w := by
  have hq : ∀ (listed : Array Bool) (i : Nat), listed.size = ops.size → i < ops.size → listed.getD i true = listed.getD i false := fun listed i h hi => by
    have : i < listed.size := by omega
    simp [this]
  have hnil : ∀ (listed : Array Bool), listed.size = ops.size → rem ops listed = [] → Region.ready .any ops listed = [] := fun listed hsz h => by
    rw [List.eq_nil_iff_forall_not_mem]
    intro i hi
    obtain ⟨h1, o, ho, _⟩ := mem_ready.1 hi
    have hlt : i < ops.size := (Array.getElem?_eq_some_iff.1 ho).1
    rw [hq listed i hsz hlt] at h1
    have : i ∈ rem ops listed := List.mem_filter.2 ⟨List.mem_range.2 hlt, by rw [h1]; rfl⟩
    rw [h] at this; cases this
  intro fuel
  induction fuel with
  | zero =>
    intro listed s a w hsz hcl hl hr hf
    have hn : rem ops listed = [] := List.eq_nil_of_length_eq_zero (by omega)
    rw [hn] at hf
    exact ⟨hnil listed hsz hn, hK s a w hr hf⟩
  | succ fuel ih =>
    intro listed s a w hsz hcl hl hr hf
    refine ⟨fun h0 => ?_, fun i hi => ?_⟩
    · have hn : rem ops listed = [] := by
        cases hrem : rem ops listed with
        | nil => rfl
        | cons i l =>
          exfalso
          have hi : i ∈ rem ops listed := by rw [hrem]; simp
          obtain ⟨h1, h2⟩ := List.mem_filter.1 hi
          have hlt := List.mem_range.1 h1
          have hlf : listed.getD i false = false := by simpa using h2
          have ho : ops[i]? = some ops[i] := Array.getElem?_eq_getElem hlt
          have : i ∈ Region.ready .any ops listed := mem_ready.2 ⟨by rw [hq listed i hsz hlt]; exact hlf, _, ho, fun e he hb => by
            have hlt' := chk_after hck ho e he hb
            cases hle : listed.getD e.on false with
            | true => rfl
            | false =>
              exfalso
              obtain ⟨l1, l2, e1, _, e3⟩ := rem_split hsz hlt hlf
              have hmem : e.on ∈ l1 := by
                have hm : e.on ∈ rem ops listed := List.mem_filter.2 ⟨List.mem_range.2 (by omega), by rw [hle]; rfl⟩
                have hs : (rem ops listed).Pairwise (· < ·) := List.Pairwise.filter _ List.pairwise_lt_range
                rw [hrem] at hs hm
                rcases List.mem_cons.1 hm with h | h
                · omega
                · have := (List.pairwise_cons.1 hs).1 _ h; omega
              have hs : l1 = [] := by
                cases l1 with
                | nil => rfl
                | cons k l1 =>
                  rw [hrem, List.cons_append] at e1
                  injection e1 with e1 _
                  have := (e3 k (by simp)).1
                  omega
              rw [hs] at hmem; cases hmem⟩
          rw [h0] at this; cases this
      rw [hn] at hf
      exact hK s a w hr hf
    · obtain ⟨h1, o, ho, h2⟩ := mem_ready.1 hi
      have hlt : i < ops.size := (Array.getElem?_eq_some_iff.1 ho).1
      rw [hq listed i hsz hlt] at h1
      obtain ⟨l1, l2, e1, e2, e3⟩ := rem_split hsz hlt h1
      rw [e1] at hf hl
      have hp := pull ho l2 l1 s (fun j hj x hx => by
        obtain ⟨j1, j2⟩ := e3 j hj
        rcases chk_comm hck ho hx j1 with h | h
        · exact h
        · have := rch_ok hcl n i j (fun o' ho' e he hb => by rw [ho] at ho'; obtain rfl := Option.some.inj ho'; exact h2 e he hb) h
          rw [j2] at this; cases this) hf
      refine osem_ok hE ho hr hp fun s' a' w' h' hk => ih _ s' a' w' (by simpa using hsz) ?_ (by rw [e2]; simp only [List.length_append, List.length_cons] at hl ⊢; omega) h' (by rw [e2]; exact hk)
      intro k ok hok hk e he hb
      refine getD_set_true ?_
      by_cases hki : i = k
      · subst hki
        rw [ho] at hok; obtain rfl := Option.some.inj hok
        exact h2 e he hb
      · rw [getD_set_ne false hki] at hk
        exact hcl k ok hok hk e he hb

/-- evaluation, in the text's order -/
def daops (tb : Tb) (ops : List Oper) : List Oper → St → (St → Prop) → Prop
  | [], st, K => K st
  | o :: l, st, K => dstpG tb ops o st fun st' => daops tb ops l st' K

theorem daops_fopsI {tb : Tb} {ops : List Oper} {K : St → Prop} {K' : FS → Prop} (hk : ∀ st', K st' → K' st'.fs) : ∀ (l : List Oper) (k : Nat) (st : St), ops.drop k = l → daops tb ops l st K → fopsI tb ops.toArray ((List.range l.length).map (fun j => k + j)) st.fs K'
  | [], k, st, _, h => hk st h
  | o :: l, k, st, hd, h => by
    rw [List.length_cons, List.range_succ_eq_map, List.map_cons, List.map_map]
    have ho : ops.toArray[k + 0]? = some o := by
      have := congrArg (fun x => x[0]?) hd
      simp at this
      simpa using this
    simp only [fopsI, ho]
    refine osem_mono (fun s' h' => h') (dstpG_osem (K' := fun s' => fopsI tb ops.toArray (List.map ((fun j => k + j) ∘ Nat.succ) (List.range l.length)) s' K') (fun st' h' => ?_) h)
    have := daops_fopsI hk l (k + 1) st' (by rw [← List.drop_drop, hd]; rfl) h'
    have e : ((fun j => k + j) ∘ Nat.succ) = (fun j => k + 1 + j) := by funext j; simp only [Function.comp]; omega
    rw [e]; exact this

theorem Aw_draw {E : En} {tb : Tb} (hE : TbOk E tb) {id : Nat} {l : List Oper} {st : St} {Q : Exit → St → Prop} (L Lm : List Nat) (n : Nat) (hck : chk n l.toArray = true) (h : daops tb l l st fun st' => Q .normal (st'.keep L Lm)) : Aw E (.region id l.toArray true) st Q := by
  intro a w hr
  refine wp_region_any hE.mx ?_
  have hrem : rem l.toArray (Array.replicate l.toArray.size false) = List.range l.length := by
    unfold rem
    simp only [List.size_toArray]
    apply List.filter_eq_self.2
    intro i hi
    have := List.mem_range.1 hi
    simp [this]
  refine any_ok hE hck (K := fun s => ∃ st' : St, st'.fs = s ∧ Q .normal (st'.keep L Lm)) (fun s a' w' ⟨st1, h1, h2⟩ ⟨st2, h3, h4⟩ => ⟨_, (h2.eqv (eqv_of_fs (h1.trans h3.symm))).keep L Lm, h4⟩) _ _ st.fs a _ (by simp) (fun i o ho hl => ?_) (by rw [hrem]; simp) ⟨st, rfl, hr.drew⟩ ?_
  · exfalso
    have : i < l.toArray.size := (Array.getElem?_eq_some_iff.1 ho).1
    simp only [List.size_toArray] at this
    simp [this] at hl
  · rw [hrem]
    have := daops_fopsI (tb := tb) (ops := l) (K := fun st' => Q .normal (st'.keep L Lm)) (K' := fun s => ∃ st' : St, st'.fs = s ∧ Q .normal (st'.keep L Lm)) (fun st' h' => ⟨st', rfl, h'⟩) l 0 st rfl h
    simpa using this

end Go.Eng
end
section
namespace Go.Eng
open Go Go.RowKit

/-! evaluation: a state is opened where it stands in full -/
section
variable (tb : Tb) (ops l : List Oper) (o : Oper) (nt : Nat) (σ : List (Nat × AV)) (m : List (Nat × List AV)) (rn : Nat) (st : St) (K : St → Prop) (dst : Option Nat) (C : Con)
theorem aops_nil : aops tb ops [] st K = K st := rfl
theorem aops_mk : aops tb ops (o :: l) ⟨nt, σ, m, rn⟩ K = stpG tb ops o ⟨nt, σ, m, rn⟩ fun st' => aops tb ops l st' K := rfl
theorem daops_nil : daops tb ops [] st K = K st := rfl
theorem daops_mk : daops tb ops (o :: l) ⟨nt, σ, m, rn⟩ K = dstpG tb ops o ⟨nt, σ, m, rn⟩ fun st' => daops tb ops l st' K := rfl

def called (st : St) (dst : Option Nat) (C : Con) (r : AV) : St :=
  match C.own, dst with
  | true, some d => { ((st.strip d).put dst (r.adopt d)) with rn := st.rn + C.cost }
  | _, _ => { (st.put dst r.er) with rn := st.rn + C.cost }
theorem called_v (x : Value) : St.called st dst C (.v x) = called st dst C (.v x) := rfl
theorem called_nl : St.called st dst C .nl = called st dst C .nl := rfl
theorem called_rd : St.called st dst C .rd = called st dst C .rd := rfl
theorem called_junk : St.called st dst C .junk = called st dst C .junk := rfl
theorem called_sl (t : Option (Nat × Nat × TypeId)) (els : List (List DV)) : St.called st dst C (.sl t els) = called st dst C (.sl t els) := rfl
theorem called_agg (ls : List AV) : St.called st dst C (.agg ls) = called st dst C (.agg ls) := rfl
theorem called_tup (ls : List AV) : St.called st dst C (.tup ls) = called st dst C (.tup ls) := rfl
theorem called_el (ls : List DV) : St.called st dst C (.el ls) = called st dst C (.el ls) := rfl
end

theorem fnOf_func (f : FuncId) : fnOf (.v (.func (.func f) #[] #[])) = some f := rfl
attribute [go_sem] fnOf_func aops_nil aops_mk daops_nil daops_mk called called_v called_nl called_rd called_junk called_sl called_agg called_tup called_el
  stpG stp dstpG dstp dopD bsl dop dop.partsE bnd ld ldL elt fld isTop argsE ownOf St.ev St.know AV.ofVal leafOf st0 enumA St.put St.keep kps kpm lk lkm binC binR pickA gk dk tyk AV.leaves AV.els fillL setL fldSizes
  AV.er AV.erAll AV.adopt AV.adoptAll adoptTok AV.strip AV.stripAll stripTok stripσ stripm AV.stripL AV.stripLAll stripLσ stripLm St.strip St.strip2 St.stripL newbox repm DV.toAV DV.ofAV DV.ofAll isbT eq2T issT ifcT nilV nilR bytesL allLeaf AV.isLeaf retA resL res1 oneR AV.xp AV.xpAll chunks DFn.con

attribute [go_sem ↓ high] gs_true gs_false
attribute [go_sem ↓ low] gs_any

/-! code: what is behind stands as a variable -/
section
variable {E : En} {tb : Tb} {st : St} {Q : Exit → St → Prop}

/-- x, then y -/
theorem Aw_sq {x y : Code} (h : ∀ B : Exit → St → Prop, (∀ st', Aw E y st' Q → B .normal st') → (∀ st', Q .ret st' → B .ret st') → (∀ k st', Q (.exit k) st' → B (.exit k) st') → Aw E x st B) : Aw E (.seq x y) st Q :=
  Aw_seq (h _ (fun _ h => h) (fun _ h => h) (fun _ _ h => h))

/-- a region, then y -/
theorem Aw_st (hE : TbOk E tb) {id : Nat} {l : List Oper} {y : Code} (L Lm : List Nat) (h : ∀ K : St → Prop, (∀ st', Aw E y st' Q → K st') → aops tb l l st fun st' => K (st'.keep L Lm)) : Aw E (.seq (.region id l.toArray false) y) st Q :=
  Aw_seq (Aw_text hE L Lm (h _ fun _ h => h))

theorem Aw_sd (hE : TbOk E tb) {id : Nat} {l : List Oper} {y : Code} (L Lm : List Nat) (n : Nat) (hck : chk n l.toArray = true) (h : ∀ K : St → Prop, (∀ st', Aw E y st' Q → K st') → daops tb l l st fun st' => K (st'.keep L Lm)) : Aw E (.seq (.region id l.toArray true) y) st Q :=
  Aw_seq (Aw_draw hE L Lm n hck (h _ fun _ h => h))

/-- a region -/
theorem Aw_tx (hE : TbOk E tb) {id : Nat} {l : List Oper} (L Lm : List Nat) (h : ∀ K : St → Prop, (∀ st', Q .normal st' → K st') → aops tb l l st fun st' => K (st'.keep L Lm)) : Aw E (.region id l.toArray false) st Q :=
  Aw_text hE L Lm (h _ fun _ h => h)

theorem Aw_td (hE : TbOk E tb) {id : Nat} {l : List Oper} (L Lm : List Nat) (n : Nat) (hck : chk n l.toArray = true) (h : ∀ K : St → Prop, (∀ st', Q .normal st' → K st') → daops tb l l st fun st' => K (st'.keep L Lm)) : Aw E (.region id l.toArray true) st Q :=
  Aw_draw hE L Lm n hck (h _ fun _ h => h)

/-- a block -/
theorem Aw_bk {id : Nat} {c : Code} (h : ∀ B : Exit → St → Prop, (∀ st', Q .normal st' → B .normal st') → (∀ st', Q .normal st' → B (.exit id) st') → (∀ st', Q .ret st' → B .ret st') → (∀ k st', k ≠ id → Q (.exit k) st' → B (.exit k) st') → Aw E c st B) : Aw E (.block id c) st Q :=
  Aw_block (h _ (fun _ h => h) (fun st' h => by simp only [blockA, if_true]; exact h) (fun _ h => h) (fun k st' hk h => by simp only [blockA, if_neg hk]; exact h))

/-- a loop; F i holds at its head -/
theorem Aw_lp {c : Code} {ι : Type} (F : ι → St) (p : ι → Prop) (μ : ι → Nat) (i0 : ι) (h0 : Le st (F i0)) (hp : p i0)
    (hs : ∀ i, p i → ∀ B : Exit → St → Prop, (∀ j st', p j → μ j < μ i → Le st' (F j) → B .normal st') → (∀ st', Q .ret st' → B .ret st') → (∀ k st', Q (.exit k) st' → B (.exit k) st') → Aw E c (F i) B) : Aw E (.loop c) st Q :=
  Aw_loop F p μ i0 h0 hp fun i hi => hs i hi _ (fun j _ h1 h2 h3 => ⟨j, h1, h2, h3⟩) (fun _ h => h) (fun _ _ h => h)

/-- what is left out is not known -/
theorem Le_of {nt rn : Nat} {σ σ' : List (Nat × AV)} {m m' : List (Nat × List AV)} (h : ∀ x, lk x σ' = lk x σ ∨ lk x σ' = .junk) (hm : ∀ k ls, lkm k m' = some ls → lkm k m = some ls) : Le ⟨nt, σ, m, rn⟩ ⟨nt, σ', m', rn⟩ := by
  intro E a w ⟨c, h1, G, h3, h4, h5⟩
  refine ⟨c, h1, ?_, fun x => ?_, h4, h5⟩
  · exact { cg := G.cg, fr := G.fr, lx := G.lx, sx := G.sx, s1 := G.s1, sS := G.sS, sg := G.sg, box := fun d ls hl => G.box d ls (hm d ls hl), boxinj := fun d d' l l' e1 e2 => G.boxinj d d' l l' (hm d l e1) (hm d' l' e2),
            tok := G.tok, toktok := G.toktok, tokbox := fun d j b k ls e1 e2 => G.tokbox d j b k ls e1 (hm k ls e2), rk := G.rk }
  · rcases h x with e | e
    · have := h3 x; simp only at this ⊢; rw [e]; exact this
    · simp only; rw [e]; exact .junk _
end

/-- f is proved at C -/
def Fine (P : Program) (f : FuncId) (C : Con) : Prop := Callable P f ∧ Valid P f C

/-- what a callee asks of the world holds behind growth, where I held -/
def Inh (I J : World → Prop) (dr : Bool) : Prop := ∀ w w' g, I w → w.grownBy w' (if dr then some g else none) → J w'
theorem inh_true {I : World → Prop} {dr : Bool} : Inh I (fun _ => True) dr := fun _ _ _ _ _ => trivial

def GsOk (P : Program) (I : World → Prop) (dr : Bool) (G : List (FuncId × Con)) : Prop := ∀ p ∈ G, Fine P p.1 p.2 ∧ Inh I p.2.inv dr
theorem gs_nil {P : Program} {I : World → Prop} {dr : Bool} : GsOk P I dr [] := fun p hp => by cases hp
theorem gs_cons {P : Program} {I : World → Prop} {dr : Bool} {f : FuncId} {C : Con} {G : List (FuncId × Con)} (h : Fine P f C) (k : GsOk P I dr G) (hi : Inh I C.inv dr := by exact inh_true) : GsOk P I dr ((f, C) :: G) := fun p hp => by
  rcases List.mem_cons.1 hp with rfl | hp
  · exact ⟨h, hi⟩
  · exact k p hp
def DsOk (P : Program) (I : World → Prop) (dr : Bool) (D : List (FuncId × DFn)) : Prop := ∀ p ∈ D, Fine P p.1 p.2.con ∧ Inh I p.2.inv dr
theorem ds_nil {P : Program} {I : World → Prop} {dr : Bool} : DsOk P I dr [] := fun p hp => by cases hp
theorem ds_cons {P : Program} {I : World → Prop} {dr : Bool} {f : FuncId} {d : DFn} {D : List (FuncId × DFn)} (h : Fine P f d.con) (k : DsOk P I dr D) (hi : Inh I d.inv dr := by exact inh_true) : DsOk P I dr ((f, d) :: D) := fun p hp => by
  rcases List.mem_cons.1 hp with rfl | hp
  · exact ⟨h, hi⟩
  · exact k p hp

section
variable {P : Program} {f : FuncId} {fn : Func} {body : Code} {T : List (TypeId × TyI)} {G : List (FuncId × Con)} {D : List (FuncId × DFn)} {nt : Nat} {rs : List ResultVar}

theorem fine_of {C : Con} (hf : P.funcs[f]? = some fn) (hb : fn.body = some body) (hn : fn.ntmps = nt) (hr : fn.results.toList = rs) (hnm : (fn.name == "runtime.NumGoroutine") = false)
    (hm : P.follows .mixedOrders = true) (hT : TysOk P T) (hG : GsOk P C.inv C.draws G) (hD : DsOk P C.inv C.draws D)
    (h : ∀ args, C.pre args → args.length ≤ nt ∧ ∀ n, (C.draws = true → n + C.cost ≤ lim) → ∀ E : En, TbOk E { T := T, G := G, D := D, draws := C.draws } → ∀ Q : Exit → St → Prop, (∀ st, retA T rs C args n .ret st → Q .ret st) → Aw E body (st0 nt args n) Q) : Fine P f C :=
  ⟨⟨fn, hf, by rw [hb]; rfl, hnm⟩, valid_of hf hb hT fun args ha => by
    obtain ⟨h1, h2⟩ := h args ha
    subst hn; subst hr
    exact ⟨h1, fun n hl E hE hD' hL hi => h2 n hl E ⟨by rw [hE]; exact hT, fun p hp => by rw [hE]; exact (hG p hp).1, fun p hp => by rw [hE]; exact (hD p hp).1, fun p hp w hw => (hG p hp).2 _ w E.g hi (by rw [← hD']; exact hw.by hL), fun p hp w hw => (hD p hp).2 _ w E.g hi (by rw [← hD']; exact hw.by hL), hD', by rw [hE]; exact hm⟩ _ (fun _ h => h)⟩⟩

/-- at the end of a function that is told by a function -/
def retD (T : List (TypeId × TyI)) (rs : List ResultVar) (own : Bool) (r : AV) (st : St) : Prop :=
  match resL T st rs with
  | some (c, l) => c ∧ (match own with | true => ((oneR l).xp []).1 | false => (oneR l).er) = r
  | none => False

theorem fine_det {d : DFn} (hf : P.funcs[f]? = some fn) (hb : fn.body = some body) (hn : fn.ntmps = nt) (hr : fn.results.toList = rs) (hnm : (fn.name == "runtime.NumGoroutine") = false)
    (hm : P.follows .mixedOrders = true) (hT : TysOk P T) (hG : GsOk P d.inv false G) (hD : DsOk P d.inv false D)
    (h : ∀ args c r, d.g args = some (c, r) → c → args.length ≤ nt ∧ ∀ n, ∀ E : En, TbOk E { T := T, G := G, D := D, draws := false } → ∀ Q : Exit → St → Prop, (∀ st, retD T rs d.own r st → Q .ret st) → Aw E body (st0 nt args n) Q) : Fine P f d.con :=
  fine_of hf hb hn hr hnm hm hT hG hD fun args ⟨c, r, hg, hc⟩ => by
    obtain ⟨h1, h2⟩ := h args c r hg hc
    refine ⟨h1, fun n hl E hE Q hQ => h2 n E hE Q fun st hst => hQ st ?_⟩
    unfold retD at hst
    cases hl' : resL T st rs with
    | none => rw [hl'] at hst; exact hst.elim
    | some p =>
      obtain ⟨c', l⟩ := p
      rw [hl'] at hst
      simp only at hst
      simp only [retA, hl']
      refine ⟨hst.1, fun e => (by cases e), c, ?_⟩
      rw [hg]
      have e2 := hst.2
      cases ho : d.own <;> rw [ho] at e2 <;> simp only [DFn.con, ho, if_true, Bool.false_eq_true, if_false] at e2 ⊢ <;> rw [e2]
end
attribute [go_sem] retD
end Go.Eng
end
section
namespace Go.Eng
open Go Go.RowKit

/-- a function of the library's: of one-cell values, by its contract -/
theorem lib_fine {P : Program} {f : FuncId} {d : DFn} (hc : Callable P f)
    (h : ∀ args c r, d.g args = some (c, r) → c → ∃ (vs : List Value) (v : Value), args = vs.map AV.v ∧ (∀ c0 : Gh, Rd c0 r v) ∧ ∀ w, d.inv w → Calls P f vs.toArray w fun e w' => e = .returned v ∧ w.grownBy w' none) : Fine P f d.con := by
  refine ⟨hc, ?_⟩
  intro c args vs0 bv B n hsz hrd her hpre hinv hsx hs1 hdr
  obtain ⟨c1, r, hg, hc1⟩ := hpre
  obtain ⟨vs, v, rfl, hr, hcall⟩ := h args c1 r hg hc1
  have e : vs0 = vs.toArray := by
    apply Array.ext
    · simpa using hsz
    · intro i h1 h2
      have h3 : i < vs.length := by simpa using h2
      have := hrd i (.v vs[i]) (by simp [h3])
      have e1 : vs0.getD i undef = vs0[i] := by simp [Array.getD_eq_getD_getElem?, h1]
      rw [e1] at this
      generalize vs0[i] = u at this
      cases this
      simp
  subst e
  refine (hcall c.w hinv).mono fun e w' ⟨he, hgr⟩ => ⟨v, r, { w := w', S := fun _ _ => False, β := fun _ => 0, tv := fun _ _ => .slice none 0 0, te := fun _ _ => 0, g := c.g }, he, ⟨c1, hg⟩, ?_⟩
  exact { w := rfl, g := rfl, rd := hr _, fr := hgr, S := fun _ _ h => h.elim, sx := fun _ _ h => h.elim, s1 := fun _ _ _ h => h.elim, tok := fun _ _ => .inl rfl, toktok := fun _ _ _ _ b hb => by simp [Value.ownBlock] at hb, rk := fun hd => by cases hd }

/-- a function of the library's, by its contract: in general -/
theorem lib_fineC {P : Program} {f : FuncId} {C : Con} (hc : Callable P f) (hd : C.draws = false)
    (h : ∀ args, C.pre args → ∃ vs : List Value, args = vs.map AV.v ∧ ∀ w, C.inv w → Calls P f vs.toArray w fun e w' => ∃ v r, e = .returned v ∧ C.post args r ∧ (∀ c0 : Gh, Rd c0 r v) ∧ w.grownBy w' none) : Fine P f C := by
  refine ⟨hc, ?_⟩
  intro c args vs0 bv B n hsz hrd her hpre hinv hsx hs1 hdr
  obtain ⟨vs, rfl, hcall⟩ := h args hpre
  have e : vs0 = vs.toArray := by
    apply Array.ext
    · simpa using hsz
    · intro i h1 h2
      have h3 : i < vs.length := by simpa using h2
      have := hrd i (.v vs[i]) (by simp [h3])
      have e1 : vs0.getD i undef = vs0[i] := by simp [Array.getD_eq_getD_getElem?, h1]
      rw [e1] at this
      generalize vs0[i] = u at this
      cases this
      simp
  subst e
  refine (hcall c.w hinv).mono fun e w' ⟨v, r, he, hp, hr, hgr⟩ => ⟨v, r, { w := w', S := fun _ _ => False, β := fun _ => 0, tv := fun _ _ => .slice none 0 0, te := fun _ _ => 0, g := c.g }, he, hp, ?_⟩
  exact { w := rfl, g := rfl, rd := hr _, fr := by rw [hd]; exact hgr, S := fun _ _ h => h.elim, sx := fun _ _ h => h.elim, s1 := fun _ _ _ h => h.elim, tok := fun _ _ => .inl rfl, toktok := fun _ _ _ _ b hb => by simp [Value.ownBlock] at hb, rk := fun hd' => by rw [hd] at hd'; cases hd' }

theorem grownBy_refl (w : World) (r : Option Nat) : w.grownBy w r := ⟨rfl, rfl, rfl, Nat.le_refl _, fun _ _ _ => rfl⟩
theorem grownBy_drewN (w : World) (n : Nat) (r : Option Nat) : w.grownBy (w.drewN n) r := ⟨rfl, rfl, rfl, Nat.le_refl _, fun _ _ _ => rfl⟩
theorem grownBy_grow (w : World) (n : Nat) (os : Array Obj) : w.grownBy (Go.Sort.grow (w.drewN n) os) none :=
  ⟨rfl, rfl, rfl, by simp [Go.Sort.grow, World.drewN], fun i hi _ => by simp [Go.Sort.grow, World.drewN, Array.getElem?_append_left hi]⟩
theorem var_grown {P : Program} {w w' : World} {name : String} {cs : Array Value} (h : w.grownBy w' none) (hv : w.var? P name = some cs) : w'.var? P name = some cs := by
  unfold World.var? at hv ⊢
  obtain ⟨g, hg, hv⟩ := Option.bind_eq_some_iff.1 hv
  rw [hg]
  simp only [Option.bind_some]
  have hl : g < w.heap.size := by
    rcases Nat.lt_or_ge g w.heap.size with h | h
    · exact h
    · rw [Array.getElem?_eq_none h] at hv; cases hv
  rw [h.block g hl (by simp)]
  exact hv
theorem cell_grown {w w' : World} {a : Addr} {v : Value} (h : w.grownBy w' none) (hv : w.cell? a = some v) : w'.cell? a = some v :=
  (World.cell?_of_block (h.block a.block (World.block_lt_of_cell? w a hv) (by simp))).trans hv
end Go.Eng
end
section
namespace Go.Eng
open Go Go.RowKit

/-! a function that opens a reader: 'r := l6Open(code)' -/
def byteRows (bs : List Nat) : List (List DV) := bs.map fun b : Nat => [DV.v (.int .u8 (b : Int))]

def BytesAt (w : World) (v : Value) : Prop :=
  v = .slice none 0 0 ∨ ∃ cb off len cap, ∃ f : Nat → Nat, v = .slice (some ⟨cb, off, none⟩) len cap ∧ len ≤ cap ∧ (0 < len → cb < w.heap.size) ∧ ∀ k, k < len → f k < 256 ∧ w.cell? ⟨cb, off + k, none⟩ = some (.int .u8 (f k))

def Opened (v : Value) (w : World) (e : Ending) (w' : World) : Prop :=
  ∃ g bv, e = .returned (.pointer (some ⟨g, 0, none⟩)) ∧ w.grownBy w' none ∧ w.heap.size ≤ g ∧ RK w' g bv w'.heap.size 0 ∧ ∀ b, bvB bv b → bvB v b

theorem bytesAt_of {w : World} {S : Nat → Nat → Prop} {bs : List Nat} (hbs : ∀ b ∈ bs, b < 256) {v : Value} (h : RdD w S (.sl (byteRows bs)) v) :
    BytesAt w v ∧ ∀ b, bvB v b → ∃ o, S b o := by
  generalize hx : DV.sl (byteRows bs) = x at h
  cases h with
  | v x h => cases hx
  | nil => exact ⟨.inl rfl, fun b ⟨_, _, _, h, _⟩ => by cases h⟩
  | sl els b off n cap size f hn hcap hs hc hh =>
    obtain rfl : byteRows bs = els := by simpa using hx
    have hsz : 0 < n → size = 1 := fun h0 => by
      have hl : 0 < (byteRows bs).length := by omega
      have := hs _ (List.getElem_mem hl)
      rw [← this]; simp [byteRows]
    have hrow : ∀ k, k < n → ∃ u : Nat, u < 256 ∧ f k = .int .u8 u := fun k hk => by
      have h1 := hsz (by omega)
      have hkb : k < bs.length := by rw [hn] at hk; simpa [byteRows] using hk
      have e1 : (byteRows bs)[k]? = some [.v (.int .u8 ((bs[k] : Nat) : Int))] := by simp [byteRows, hkb]
      have := hh k 0 _ _ e1 rfl
      rw [h1, Nat.mul_one, Nat.add_zero] at this
      refine ⟨bs[k], hbs _ (List.getElem_mem hkb), ?_⟩
      generalize f k = u at this
      cases this; rfl
    refine ⟨.inr ⟨b, off, n, cap, fun k => match f k with | .int _ u => u.toNat | _ => 0, rfl, hcap, fun h0 => ?_, fun k hk => ?_⟩, ?_⟩
    · have := (hc 0 (by rw [hsz h0]; omega)).2
      exact World.block_lt_of_cell? w ⟨b, off + 0, none⟩ this
    · obtain ⟨u, hu, he⟩ := hrow k hk
      have := (hc k (by rw [hsz (by omega)]; omega)).2
      simp only [this, he]
      exact ⟨by simpa using hu, by simp⟩
    · rintro b' ⟨off', len', cap', he, h0⟩
      simp only [Value.slice.injEq, Option.some.injEq, Addr.mk.injEq, and_true] at he
      obtain ⟨⟨rfl, rfl⟩, rfl, rfl⟩ := he
      exact ⟨off + 0, (hc 0 (by rw [hsz h0]; omega)).1⟩

mutual
def AV.nt : AV → AV
  | .v x => .v x
  | .nl => .nl
  | .sl _ els => .sl none els
  | .agg ls => .agg (AV.ntAll ls)
  | .tup ls => .tup (AV.ntAll ls)
  | .loc d o => .loc d o
  | .el ls => .el ls
  | .rd => .junk
  | .junk => .junk
def AV.ntAll : List AV → List AV
  | [] => []
  | x :: l => x.nt :: AV.ntAll l
end
theorem ntAll_eq (ls : List AV) : AV.ntAll ls = ls.map AV.nt := by
  induction ls with
  | nil => rfl
  | cons x l ih => simp [AV.ntAll, ih]

theorem Rd.nt {c c' : Gh} (hk : Keeps c.w c.S c'.w c'.S) (hβ : c'.β = c.β) {x : AV} {v : Value} (h : Rd c x v) : Rd c' x.nt v := by
  induction h with
  | v x h => exact .v x h
  | junk x => exact .junk x
  | nl => exact .nl
  | rd => exact .junk _
  | loc k off => rw [← hβ]; exact .loc _ _
  | sl tok els v h ht => exact .sl none els v (h.keep hk) trivial
  | agg ls cs hn _ ih =>
    simp only [AV.nt, ntAll_eq]
    refine .agg _ cs (by simpa using hn) fun j x hx => ?_
    obtain ⟨y, hy, rfl⟩ := by simpa using hx
    exact ih j y hy
  | tup ls cs hn _ ih =>
    simp only [AV.nt, ntAll_eq]
    refine .tup _ cs (by simpa using hn) fun j x hx => ?_
    obtain ⟨y, hy, rfl⟩ := by simpa using hx
    exact ih j y hy
  | el ls b off f hc hh => exact .el ls b off f (fun k hkk => hk _ _ _ (hc k hkk).1 (hc k hkk).2) (fun j x hx => (hh j x hx).keep hk)

def ntσ : List (Nat × AV) → List (Nat × AV)
  | [] => []
  | (y, v) :: l => (y, v.nt) :: ntσ l
def ntm : List (Nat × List AV) → List (Nat × List AV)
  | [] => []
  | (y, v) :: l => (y, AV.ntAll v) :: ntm l
theorem lk_nt (x : Nat) (l : List (Nat × AV)) : lk x (ntσ l) = (lk x l).nt := by
  induction l with
  | nil => rfl
  | cons p l ih => obtain ⟨y, v⟩ := p; simp only [ntσ, lk]; split <;> simp [ih]
theorem lkm_nt (x : Nat) (l : List (Nat × List AV)) : lkm x (ntm l) = (lkm x l).map AV.ntAll := by
  induction l with
  | nil => rfl
  | cons p l ih => obtain ⟨y, v⟩ := p; simp only [ntm, lkm]; split <;> simp [ih]

/-- behind the opening -/
def St.opened (st : St) (d : Nat) : St := St.put { nt := st.nt, σ := ntσ st.σ, m := ntm st.m, rn := 0 } (some d) .rd

mutual
def AV.nord : AV → Bool
  | .v _ => true
  | .nl => true
  | .sl _ _ => true
  | .agg ls => AV.nordAll ls
  | .tup ls => AV.nordAll ls
  | .loc _ _ => true
  | .el _ => true
  | .rd => false
  | .junk => true
def AV.nordAll : List AV → Bool
  | [] => true
  | x :: l => x.nord && AV.nordAll l
end
theorem nordAll_get : ∀ (l : List AV) (j : Nat) (x : AV), AV.nordAll l = true → l[j]? = some x → x.nord = true
  | [], j, x, _, hx => by simp at hx
  | y :: l, 0, x, h, hx => by
    obtain rfl := Option.some.inj hx
    simp only [AV.nordAll, Bool.and_eq_true] at h; exact h.1
  | y :: l, j + 1, x, h, hx => by
    simp only [AV.nordAll, Bool.and_eq_true] at h
    exact nordAll_get l j x h.2 (by simpa using hx)
theorem Rd.ng {c : Gh} (g : Nat) {x : AV} {v : Value} (h : Rd c x v) : x.nord = true → Rd { c with g := g } x v := by
  induction h with
  | v x h => intro _; exact .v x h
  | junk x => intro _; exact .junk x
  | nl => intro _; exact .nl
  | rd => intro h; cases h
  | loc k off => intro _; exact (.loc k off : Rd { c with g := g } _ _)
  | sl tok els v h ht => intro _; exact .sl tok els v h ht
  | agg ls cs hn _ ih => intro h; exact .agg ls cs hn fun j x hx => ih j x hx (nordAll_get ls j x h hx)
  | tup ls cs hn _ ih => intro h; exact .tup ls cs hn fun j x hx => ih j x hx (nordAll_get ls j x h hx)
  | el ls b off f hc hh => intro _; exact .el ls b off f hc hh

/-- the step: the reader is opened -/
theorem R.opened {E : En} {st : St} {a : Act} {w : World} (h : R E st a w) {v : Value} {bs : List Nat} (hbs : ∀ b ∈ bs, b < 256) {x : Operand} (hx : (st.ev x).er = .sl none (byteRows bs)) (hv : a.eval x = v)
    {F : FuncId} (hF : ∀ w v, BytesAt w v → Calls E.P F #[v] w (Opened v w)) :
    Calls E.P F #[v] w fun e w' => ∃ u, e = .returned u ∧ w.grownBy w' none ∧ ∃ E' : En, E'.P = E.P ∧ E'.draws = true ∧ E'.w0 = w' ∧ (∀ b, E'.L b → E.w0.heap.size ≤ b ∨ E.L b) ∧ E.w0.heap.size ≤ E'.g ∧ (∀ b o, E'.S0 b o → E.w0.heap.size ≤ b ∨ E.S0 b o) ∧
      ∀ d, d < st.nt → R E' (st.opened d) (a.put (some d) u) w' := by
  obtain ⟨c, rfl, G, hσ, hnt, had⟩ := h
  have hrx : Rd c (.sl none (byteRows bs)) v := by
    have := (R.ev (c := c) (st := st) (a := a) hσ x).er (c := c) (c' := c) (fun _ _ _ h h' => ⟨h, h'⟩) rfl
    rw [hx, hv] at this; exact this
  have hrd : RdD c.w c.S (.sl (byteRows bs)) v := by
    cases hrx with
    | sl _ _ _ h _ => exact h
  obtain ⟨hb1, hb2⟩ := bytesAt_of hbs hrd
  refine (hF c.w v hb1).mono ?_
  rintro e w' ⟨g, bv, rfl, hgr, hg, hrk, hbv⟩
  refine ⟨_, rfl, hgr, ?_⟩
  let L : Nat → Prop := fun b => ∃ d ls, lkm d st.m = some ls ∧ c.β d = b
  let E' : En := { P := E.P, w0 := w', draws := true, g := g, bv := bv, S0 := c.S, L := L }
  have hold : ∀ k, k < c.w.heap.size → w'.heap[k]? = c.w.heap[k]? := fun k hk => hgr.block k hk (by simp)
  have hle := G.hle
  have hk : Keeps c.w c.S w' c.S := keeps_of_lt (fun _ _ h => h) fun b o v _ hv => hold b (World.block_lt_of_cell? c.w ⟨b, o, none⟩ hv)
  refine ⟨E', rfl, rfl, rfl, ?_, by show _ ≤ g; omega, fun b o h => G.sS b o h, fun d hdn => ?_⟩
  · rintro b ⟨d, ls, hl, rfl⟩
    exact (G.box d ls hl).lt.1
  let c' : Gh := { w := w', S := c.S, β := c.β, tv := fun _ _ => .slice none 0 0, te := fun _ _ => 0, g := g }
  have hst : ∀ {x v}, Rd c x v → Rd c' x.nt v := fun h => h.nt (c' := c') hk rfl
  have G' : Good E' (ntm st.m) 0 c' := by
    refine { cg := rfl, fr := ⟨rfl, rfl, rfl, Nat.le_refl _, fun _ _ _ _ => rfl⟩, lx := fun _ b hb => ?_, sx := fun b o h => ?_, s1 := fun b o v hS hv => s1_keep G hk hS hv, sS := fun _ _ h => .inr h, sg := fun _ o h => ?_, box := fun k ls hl => ?_,
              boxinj := fun k k' l l' h1 h2 he => ?_, tok := fun _ _ => .inl rfl, toktok := fun _ _ _ _ b hb => by simp [c', Value.ownBlock] at hb, tokbox := fun _ _ b _ _ hb => by simp [c', Value.ownBlock] at hb, rk := fun _ => hrk }
    · obtain ⟨k, ls, hl, rfl⟩ := hb
      have := (G.box k ls hl).lt.2
      refine ⟨fun e => by have e' : c.β k = g := e; omega, fun h => ?_⟩
      obtain ⟨o, ho⟩ := hb2 _ (hbv _ h)
      obtain ⟨_, _, _, _, _, _, h5⟩ := G.box k ls hl
      exact h5 o ho
    · obtain ⟨v, hv⟩ := G.sx b o h
      exact ⟨v, (hk b o v h hv).2⟩
    · have := G.slt (b := g) h; omega
    · rw [lkm_nt, Option.map_eq_some_iff] at hl
      obtain ⟨l, hl, rfl⟩ := hl
      have hb := (G.box k l hl).lt
      obtain ⟨cs, T, b1, b2, b3, b4, b5⟩ := G.box k l hl
      refine ⟨cs, T, .inr ⟨k, l, hl, rfl⟩, (hold _ hb.2).trans b2, by simpa [ntAll_eq] using b3, fun j x hx => ?_, b5⟩
      rw [ntAll_eq, List.getElem?_map, Option.map_eq_some_iff] at hx
      obtain ⟨y, hy, rfl⟩ := hx
      exact hst (b4 j y hy)
    · rw [lkm_nt, Option.map_eq_some_iff] at h1 h2
      obtain ⟨l1, h1, _⟩ := h1
      obtain ⟨l2, h2, _⟩ := h2
      exact G.boxinj k k' _ _ h1 h2 he
  exact R.put (st := { nt := st.nt, σ := ntσ st.σ, m := ntm st.m, rn := 0 }) (c := c') rfl G' (fun x => by rw [lk_nt]; exact hst (hσ x)) hnt had .rd

theorem open_region {E : En} {tb : Tb} (hE : TbOk E tb) {ops l2 : List Oper} {o : Oper} {J : St → Prop} {Q : Exit → Act → World → Prop}
    (hJ : ∀ st a w, R E st a w → J st → wpList E.P ops.toArray Q (o :: l2) a w) : ∀ (l1 : List Oper) (st : St) (a : Act) (w : World), R E st a w → aops tb ops l1 st J → wpList E.P ops.toArray Q (l1 ++ o :: l2) a w
  | [], st, a, w, h, hs => hJ st a w h hs
  | y :: l, st, a, w, h, hs => by
    have := stpG_ok hE h hs (next := wpList E.P ops.toArray Q (l ++ o :: l2)) (Q := Q) fun st' a' w' h' hk => open_region hE hJ l st' a' w' h' hk
    show wpList E.P ops.toArray Q (y :: (l ++ o :: l2)) a w
    unfold wpList
    split at this
    · rename_i hw; rw [if_pos hw]; exact .inl this
    · rename_i hw; rw [if_neg hw]; exact this

/-- at the end of a function that opened a reader -/
theorem draw_end {E' : En} {T : List (TypeId × TyI)} (hT : TysOk E'.P T) {C : Con} {fn : Func} {rs : List ResultVar} (hr : fn.results.toList = rs) (hdr : C.draws = false) (hown : C.own = false) (hnord : ∀ args r, C.post args r → r.nord = true)
    {c0 : Gh} {bv : Value} {B n n' : Nat} {args : List AV} {w1 : World} (hw0 : c0.w.grownBy w1 none) (he0 : E'.w0 = w1) (hL : ∀ b, E'.L b → c0.w.heap.size ≤ b) (hg : c0.w.heap.size ≤ E'.g) (hS : ∀ b o, E'.S0 b o → c0.w.heap.size ≤ b ∨ c0.S b o) (hd' : E'.draws = true)
    {st : St} {a : Act} {w : World} (hR : R E' st a w) (hq : retA T rs C args n' .ret st) :
    bodyPost E'.P fn (fun e w' => ∃ v r c', e = .returned v ∧ C.post args r ∧ Out E'.P C c0 bv B n r v w' c') .ret a w := by
  obtain ⟨c1, rfl, G, hσ, hn, hd⟩ := hR
  subst he0
  simp only [retA] at hq
  split at hq
  rotate_left
  · exact hq.elim
  rename_i cd l hrs
  obtain ⟨q1, q2, q3⟩ := hq
  rw [hown] at q3
  simp only [Bool.false_eq_true, if_false] at q3
  subst hr
  obtain ⟨vs', s1, s2, s3⟩ := resL_ok (E := E') hT rfl G hσ fn.results.toList cd l hrs q1
  have hres : (results fn a.tmps).run E'.P c1.w = .ok (if h : vs'.length = 1 then vs'[0] else .tuple vs'.toArray) c1.w := by
    have s1' : (List.mapM (rv a.tmps) fn.results.toList).run E'.P c1.w = .ok vs' c1.w := s1
    rw [results_rv, Array.mapM_eq_mapM_toList]
    simp only [Sem.run_bind, Sem.run_map, s1', Result.andThen_ok, List.size_toArray, Sem.run_pure]
    congr 1
  have hone : Rd c1 (oneR l) (if h : vs'.length = 1 then vs'[0] else .tuple vs'.toArray) := by
    by_cases h1 : vs'.length = 1
    · rw [dif_pos h1]
      obtain ⟨x, rfl⟩ : ∃ x, l = [x] := List.length_eq_one_iff.1 (by omega)
      obtain ⟨v, v1, v2⟩ := s3 0 x rfl
      have : vs'[0] = v := by
        have h0 := List.getElem?_eq_getElem (l := vs') (i := 0) (by omega)
        rw [h0] at v1; exact Option.some.inj v1
      rw [this]; exact v2
    · rw [dif_neg h1]
      have e : oneR l = .tup l := by
        unfold oneR
        split
        · simp at s2; omega
        · rfl
      rw [e]
      refine .tup l _ (by simpa using s2) fun j x hx => ?_
      obtain ⟨v, v1, v2⟩ := s3 j x hx
      have : vs'.toArray.getD j undef = v := by simp [Array.getD_eq_getD_getElem?, v1]
      rw [this]; exact v2
  generalize (if h : vs'.length = 1 then vs'[0] else .tuple vs'.toArray) = val at hres hone
  refine ⟨hd, val, hres, val, (oneR l).er, { w := c1.w, S := c1.S, β := c1.β, tv := fun _ _ => .slice none 0 0, te := fun _ _ => 0, g := c0.g }, rfl, q3, ?_⟩
  have hfr := G.fr
  exact { w := rfl, g := rfl,
          rd := by
            have h1 : Rd { c1 with tv := fun _ _ => .slice none 0 0, te := fun _ _ => 0 } (oneR l).er val := Rd.er (c := c1) (c' := { c1 with tv := fun _ _ => .slice none 0 0, te := fun _ _ => 0 }) (fun _ _ _ h h' => ⟨h, h'⟩) rfl hone
            exact h1.ng c0.g (hnord _ _ q3)
          fr := by
            rw [hdr]
            refine ⟨hfr.os.trans hw0.os, hfr.tape.trans hw0.tape, hfr.output.trans hw0.output, Nat.le_trans hw0.size hfr.size, fun i hi _ => ?_⟩
            refine (hfr.block i (Nat.lt_of_lt_of_le hi hw0.size) (fun e => by rw [hd'] at e; simp at e; omega) (fun h => by have := hL i h; omega)).trans (hw0.block i hi (by simp))
          S := fun b o h => by
            rcases G.sS b o h with h | h
            · exact .inl (Nat.le_trans hw0.size h)
            · exact hS b o h
          sx := G.sx, s1 := G.s1, tok := fun _ _ => .inl rfl, toktok := fun _ _ _ _ b hb => by simp [Value.ownBlock] at hb, rk := fun h => by rw [hdr] at h; cases h }

theorem fine_draw {P : Program} {f : FuncId} {fn : Func} {body : Code} {T : List (TypeId × TyI)} {G : List (FuncId × Con)} {D : List (FuncId × DFn)} {nt : Nat} {rs : List ResultVar} {C : Con}
    {r0 rest : Code} {id : Nat} {l1 l2 : List Oper} {o : Oper} {x : Operand} {F : FuncId} {ats : Array TypeId} {dst : Nat}
    (hf : P.funcs[f]? = some fn) (hb : fn.body = some body) (hn : fn.ntmps = nt) (hr : fn.results.toList = rs) (hnm : (fn.name == "runtime.NumGoroutine") = false)
    (hm : P.follows .mixedOrders = true) (hT : TysOk P T) (hdr : C.draws = false) (hown : C.own = false) (hG : GsOk P C.inv false G) (hD : DsOk P C.inv false D)
    (hbody : body = .seq r0 (.seq (.region id (l1 ++ o :: l2).toArray false) rest)) (hog : o.guard = none) (hod : o.dst = some dst) (hoo : o.op = .call { callee := .value (.func F), args := #[x], argTypes := ats }) (hdst : dst < nt)
    (hF : ∀ w v, BytesAt w v → Calls P F #[v] w (Opened v w)) (hFc : Callable P F) (hnord : ∀ args r, C.post args r → r.nord = true)
    (h : ∀ args, C.pre args → args.length ≤ nt ∧ ∃ bs : List Nat, (∀ b ∈ bs, b < 256) ∧ ∀ n E, TbOk E { T := T, G := [], D := [], draws := false } → ∀ J : St → Prop,
      (∀ st, (st.ev x).er = .sl none (byteRows bs) → st.nt = nt → (∀ E', TbOk E' { T := T, G := G, D := D, draws := true } → ∀ Q' : Exit → St → Prop, (∀ st', retA T rs C args 0 .ret st' → Q' .ret st') →
        aops { T := T, G := G, D := D, draws := true } (l1 ++ o :: l2) l2 (st.opened dst) fun st' => Aw E' rest st' Q') → J st) →
      Aw E r0 (st0 nt args n) (thenA (fun st => aops { T := T, G := [], D := [], draws := false } (l1 ++ o :: l2) l1 st J) (fun _ _ => False))) : Fine P f C := by
  refine ⟨⟨fn, hf, by rw [hb]; rfl, hnm⟩, ?_⟩
  intro c args vs bv B n hsz hrd her hpre hinv hsx hs1 _
  subst hn
  obtain ⟨hl, bs, hbs, h⟩ := h args hpre
  let E : En := { P := P, w0 := c.w, draws := false, g := c.g, bv := bv, S0 := c.S }
  have hE : TbOk E { T := T, G := [], D := [], draws := false } := ⟨hT, fun _ h => (by cases h), fun _ h => (by cases h), fun _ h => (by cases h), fun _ h => (by cases h), rfl, hm⟩
  refine calls_of_wp hf hb ?_
  rw [hbody]
  have hR0 : R E (st0 fn.ntmps args n) { tmps := vs ++ Array.replicate (fn.ntmps - vs.size) undef, defers := [] } c.w := by
    let c0 : Gh := { w := c.w, S := c.S, β := fun _ => 0, tv := fun _ _ => .slice none 0 0, te := fun _ _ => 0, g := c.g }
    refine ⟨c0, rfl, ?_, fun x => ?_, by simp [st0, hsz]; omega, rfl⟩
    · exact { cg := rfl, fr := ⟨rfl, rfl, rfl, Nat.le_refl _, fun _ _ _ _ => rfl⟩, lx := fun _ _ h => h.elim, sx := hsx, s1 := hs1, sS := fun _ _ h => .inr h, sg := fun hd => (by cases hd), box := fun d ls hl => by simp [st0, lkm] at hl, boxinj := fun d d' l l' hl => by simp [st0, lkm] at hl,
              tok := fun _ _ => .inl rfl, toktok := fun _ _ _ _ b hb => by simp [c0, Value.ownBlock] at hb, tokbox := fun _ _ b _ _ hb => by simp [c0, Value.ownBlock] at hb, rk := fun hd => (by cases hd) }
    · simp only [st0, lk_enumA, Nat.zero_le, if_true, Nat.sub_zero]
      by_cases hx : x < args.length
      · have e1 : args.getD x .junk = args[x] := by simp [List.getD_eq_getElem?_getD, hx]
        have e2 : (vs ++ Array.replicate (fn.ntmps - vs.size) undef).getD x undef = vs.getD x undef := by
          simp only [Array.getD_eq_getD_getElem?]
          rw [Array.getElem?_append_left (by omega)]
        rw [e1, e2]
        have := (hrd x args[x] (List.getElem?_eq_getElem hx)).er (c := c) (c' := c0) (fun _ _ _ h h' => ⟨h, h'⟩) rfl
        rwa [her _ (List.getElem_mem _)] at this
      · have e1 : args.getD x .junk = .junk := by simp [List.getD_eq_getElem?_getD, hx]
        rw [e1]; exact .junk _
  let J : St → Prop := fun st => (st.ev x).er = .sl none (byteRows bs) ∧ st.nt = fn.ntmps ∧ (∀ E', TbOk E' { T := T, G := G, D := D, draws := true } → ∀ Q' : Exit → St → Prop, (∀ st', retA T rs C args 0 .ret st' → Q' .ret st') →
        aops { T := T, G := G, D := D, draws := true } (l1 ++ o :: l2) l2 (st.opened dst) fun st' => Aw E' rest st' Q')
  have key := h n E hE J (fun st e1 e2 e3 => ⟨e1, e2, e3⟩)
  refine wp_seq (Go.wp_mono (key _ _ hR0) ?_)
  rintro e a1 w1 ⟨st1, hR1, hq1⟩
  cases e with
  | normal =>
    simp only [thenA] at hq1
    refine wp_seq (wp_region_lit ?_)
    refine open_region hE (fun st a w hR hJ => ?_) l1 st1 a1 w1 hR1 hq1
    obtain ⟨hx, hnt, hJ⟩ := hJ
    have hstep := hR.opened hbs hx rfl hF
    unfold wpList
    rw [if_pos (by simp [Region.wanted, hog])]
    refine .inl ?_
    obtain ⟨fnF, f1, f2, f3⟩ := hFc
    have hrun : (execOp a.eval o).run P w = .ok (.enter F #[a.eval x]) w := by
      unfold execOp; rw [hoo]
      have e1 : a.eval (.func F) = .func (.func F) #[] #[] := rfl
      simp only [Sem.run_bind, resolve, e1, Deferred.ofValue, Sem.run_pure, Result.andThen_ok, invoke, callFunc, run_program]
      simp only [Array.empty_append, Array.append_empty, f1, f2, f3, Bool.false_eq_true, if_false, Sem.run_pure]
      simp
    unfold Oper.wp
    rw [hrun]
    show Calls P F #[a.eval x] w _
    refine hstep.mono ?_
    rintro e w' ⟨u, rfl, hgr, E', hP, hd', hw', hL, hg, hS, hR'⟩
    have hRn := hR' dst (by omega)
    have hgr0 : c.w.grownBy w' none := by
      obtain ⟨c1, rfl, G1, _⟩ := hR
      exact grownBy_trans (G1.fr.by (fun _ h => h)) hgr
    have hL' : ∀ b, E'.L b → c.w.heap.size ≤ b := fun b hb => by
      rcases hL b hb with h | h
      · exact h
      · exact h.elim
    have hinvw : ∀ w'', GrownL E'.w0 w'' (if E'.draws then some E'.g else none) E'.L → c.w.grownBy w'' none := fun w'' hh => by
      rw [hw', hd'] at hh
      refine ⟨hh.os.trans hgr0.os, hh.tape.trans hgr0.tape, hh.output.trans hgr0.output, Nat.le_trans hgr0.size hh.size, fun i hi _ => ?_⟩
      refine (hh.block i (Nat.lt_of_lt_of_le hi hgr0.size) (fun e => by simp at e; have h0 : c.w.heap.size ≤ E'.g := hg; omega) (fun h => by have := hL' i h; omega)).trans (hgr0.block i hi (by simp))
    have hE' : TbOk E' { T := T, G := G, D := D, draws := true } :=
      ⟨by rw [hP]; exact hT, fun p hp => by rw [hP]; exact (hG p hp).1, fun p hp => by rw [hP]; exact (hD p hp).1, fun p hp w'' hh => (hG p hp).2 _ w'' 0 hinv (hinvw w'' hh), fun p hp w'' hh => (hD p hp).2 _ w'' 0 hinv (hinvw w'' hh), hd', by rw [hP]; exact hm⟩
    have hao := hJ E' hE' (fun e st' => e = .ret ∧ retA T rs C args 0 .ret st') (fun st' h => ⟨rfl, h⟩)
    have e0 : a.put o.dst u = a.put (some dst) u := by rw [hod]
    show wpList P _ _ l2 (a.put o.dst u) w'
    rw [e0]
    have hPE : P = E'.P := hP.symm
    rw [hPE]
    refine aops_ok hE' (K := fun st' => Aw E' rest st' _) (fun st2 a2 w2 hR2 hk => ?_) l2 _ _ _ hRn hao
    refine Go.wp_mono (hk a2 w2 hR2) ?_
    rintro e a3 w3 ⟨st3, hR3, rfl, hret⟩
    exact draw_end (by rw [hP]; exact hT) hr hdr hown hnord hgr0 hw' hL' hg (fun b o h => by
      rcases hS b o h with h | h
      · exact .inl h
      · exact .inr h) hd' hR3 hret
  | _ => exact hq1.elim
attribute [go_sem] AV.nt AV.ntAll ntσ ntm St.opened
end Go.Eng
end
